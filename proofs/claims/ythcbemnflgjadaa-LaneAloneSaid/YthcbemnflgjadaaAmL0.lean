/- The plain law. -/
import Derived.Test.YthcbemnflgjadaaAmP0
import Derived.KernelRfl
set_option linter.all false
namespace Go.Proofs.Ythcbemnflgjadaa
open Go Go.RowKit
theorem JV {x:Int} (h0 : -9223372036854775808≤x) (h1:x≤9223372036854775807):IntKind.i64.wrap x=x:=by
  simp [IntKind.wrap,IntKind.bits,IntKind.signed]; omega
theorem Eu (i:Nat) (h:i<1000000000000):IntKind.i64.wrap ((i:Int)+1)=((i+1:Nat):Int):=by
  rw [JV (by omega) (by omega)]; omega
theorem Rf {α:Type} (xs:List α) (i:Nat):By xs (i:Int)=xs[i]?:=rfl
theorem D3 {α:Type} (xs:List α) (i:Nat) (h:i<xs.length):By xs (i:Int)=some xs[i]:=by rw [Rf,List.getElem?_eq_getElem h]
theorem Ff {α:Type} (xs ys:List α) (h:xs.length+ys.length≤1000000000):Jc xs ys=some (xs++ys):=by
  unfold Jc; rw [if_pos (by simpa using h)]
theorem Sh {α:Type} (xs:List α) (i:Nat) (y:α) (h:i<xs.length):upd xs (i:Int) y=some (xs.set i y):=by
  show(if i<xs.length then some (xs.set i y) else none)=_
  rw [if_pos h]
theorem Su {α:Type} (n:Nat) (x:α) (h:n≤1000000000):mk (n:Int) x=some (List.replicate n x):=by
  unfold mk; rw [if_pos (by omega)]; rfl
theorem Cr {α:Type} {xs:List α} {i:Nat} (h:i<xs.length):xs.drop i=xs[i]::xs.drop (i+1):=List.drop_eq_getElem_cons h
theorem Ca {α:Type} (xs:List α) (i:Nat):decide ((i:Int)<((xs.length:Nat):Int))=decide (i<xs.length):=by
  by_cases h:i<xs.length <;> simp [h]
theorem M6 {K α:Type} [DecidableEq K] (k j:K) (x:α):∀ l:List (K×α),DW (GR l k x) j=if k=j then some x else DW l j
  | []=>by simp [GR,DW]
  | p::r=>by
    unfold GR
    by_cases h:p.1=k
    · rw [if_pos h]
      simp only [DW]
      by_cases hj:k=j
      · simp [hj]
      · simp [hj,h]
    · rw [if_neg h,DW,DW,M6 k j x r]
      by_cases hj:p.1=j
      · have:k≠j:=fun e=>h (by rw [hj,e])
        simp [hj,this]
      · simp [hj]
theorem M7 {α β:Type} {x:Option α} {v:α} {f:α→Option β} (h:x=some v):x.bind f=f v:=by rw [h]; rfl
theorem Ni (l:List Int):(Eo l).Pairwise (·≤·):=by
  have:=List.pairwise_mergeSort (le:=fun x y:Int=>decide (x≤y)) (fun a b c h1 h2=>by simp at *; omega) (fun a b=>by simp; omega) l
  exact this.imp fun h=>by simpa using h
theorem Qr {l l':List Int} (hp:l.Perm l') (hs:l'.Pairwise (·≤·)):Eo l=l' :=
  List.Perm.eq_of_pairwise (le:=(·≤·)) (fun _ _ _ _ h1 h2=>Int.le_antisymm h1 h2) (Ni l) hs ((List.mergeSort_perm l _).trans hp)
theorem NH {l l':List Int} (hp:l.Perm l') (hs:l'.Pairwise (·≤·)) (hl:l.length≤1000000):LO l=some l':=by
  unfold LO
  rw [if_pos (by omega),Qr hp hs]
def OO:Ak:=⟨[2,2],[⟨100,120,40⟩,⟨110,130,20⟩,⟨125,140,30⟩,⟨150,160,10⟩],0⟩
def Qs:BJ:=⟨OO,[0,0,1,1],⟨0,1,2,3,0,0,0,0⟩,⟨false,false,false,false,false,false,false,false⟩⟩
theorem RR:Ct 700 OO [0,0,1,1] [0,1,2,3] []=some ([0,2],0):=by
  unfold Ct
  refine(M7 (v:=(Qs,0)) (by kernel_rfl)).trans ?_
  show((BG 700 Qs).bind fun x25=>(Bk 700 x25).bind fun x26=>(LO x26).bind fun u_80=>some (u_80,0))=_
  refine(M7 (v:=[[2],[0],[],[]]) (by kernel_rfl)).trans ?_
  refine(M7 (v:=[2,0]) (by kernel_rfl)).trans ?_
  exact M7 (NH (by decide) (by decide) (by decide))
theorem OP:Fe 700=some true:=by
  unfold Fe
  refine(M7 (v:=OO) rfl).trans ?_
  refine(M7 RR).trans ?_
  kernel_rfl
theorem F6 (n:Nat) (l:List Int) (h:l.length≤1000):E9 n l=some l:=by
  unfold E9
  simp [Ff [] l (by simp; omega)]
theorem Qt (n:Nat) (l:List Int) (h:l.length≤1000):Bd n l=some l:=by
  unfold Bd
  simp [Ff [] l (by simp; omega)]
theorem GX (y:Ak) (hb:y.buses.length≤1000):∀ (n i:Nat)(acc:List AX),y.buses.length<n+i→i≤y.buses.length→acc.length=i→Dh n y acc (i:Int)=some (acc++y.buses.drop i)
  | 0,i,acc,h,hi,_=>by omega
  | n+1,i,acc,h,hi,ha=>by
    rw [Dh,Ca]
    by_cases hx:i<y.buses.length
    · simp only [hx,decide_true,cond_true,D3 _ _ hx,Option.bind_some]
      rw [Ff _ _ (by simp; omega)]
      simp only [Option.bind_some]
      rw [Eu i (by omega),GX y hb n (i+1) _ (by omega) (by omega) (by simp; omega),Cr hx,List.append_assoc]
      rfl
    · have:i=y.buses.length:=by omega
      simp [this]
theorem JW (n:Nat) (y:Ak) (hr:y.room.length≤1000) (hb:y.buses.length≤1000) (hn:y.buses.length<n):FV n y=some y:=by
  unfold FV
  have e1:=GX y hb n 0 [] (by omega) (by omega) rfl
  rw [show((0:Nat):Int)=0 from rfl] at e1
  rw [F6 n _ hr,Option.bind_some,e1]
  simp
def Fd (x lo hi:Int):Bool:=decide (lo≤x) && decide (x≤hi)
theorem Cs {x lo hi:Int}:Fd x lo hi=true↔lo≤x∧x≤hi:=by simp [Fd]
theorem HI (n:Nat) (x lo hi:Int):G0 n x lo hi=some (Fd x lo hi):=by
  unfold G0 Fd
  rw [show decide (x≥lo)=decide (lo≤x) from rfl]
  cases decide (lo≤x) <;> rfl
theorem FQ (n:Nat) (x lo hi:Int):Ce n x lo hi=some (Fd x lo hi):=by
  unfold Ce Fd
  cases decide (lo≤x) <;> rfl
def Dc (b:AX):Bool:=Fd b.lo 0 b.hi && (decide (b.hi≤2000) && Fd b.turn 0 2000)
theorem Qu (n:Nat) (b:AX):BP n b=some (Dc b):=by
  unfold BP Dc
  simp only [FQ,Option.bind_some]
  cases Fd b.lo 0 b.hi <;> cases decide (b.hi≤2000) <;> rfl
theorem JX (s:List Int) (f:Int→Option Bool) (g:Int→Bool) (hf:∀ c∈s,f c=some (g c)) (hs:s.length≤1000000):∀ (n i:Nat),s.length<n+i→i≤s.length →
    ∃ r,AE n s f (i:Int)=some r∧(if (s.drop i).any g then ∃ k:Int,0≤k∧r=Ex.ret k else r=Ex.go ())
  | 0,i,h,hi=>by omega
  | n+1,i,h,hi=>by
    rw [AE,Ca]
    by_cases hx:i<s.length
    · simp only [hx,decide_true,cond_true,D3 _ _ hx,Option.bind_some,hf _ (List.getElem_mem hx)]
      rw [Eu i (by omega),Cr hx,List.any_cons]
      cases hv:g s[i] with
      | true=>exact⟨Ex.ret (i:Int),rfl,⟨i,by omega,rfl⟩⟩
      | false =>
        obtain⟨r,h1,h2⟩:=JX s f g hf hs n (i+1) (by omega) (by omega)
        exact⟨r,h1,by rw [Bool.false_or]; exact h2⟩
    · have:i=s.length:=by omega
      subst this
      exact⟨Ex.go (),by simp,by simp⟩
theorem OQ (n:Nat) (l:List Int) (f:Int→Option Bool) (g:Int→Bool) (hf:∀ c∈l,f c=some (g c)) (h:l.length<n) (hs:l.length≤1000000):Dv n l f=some (l.all g):=by
  unfold Dv B0 BN
  obtain⟨r,h1,h2⟩:=JX l (fun y0=>Ch n y0 f) (fun c=>!g c) (fun c hc=>by unfold Ch; rw [hf c hc]; rfl) hs n 0 (by omega) (by omega)
  rw [show((0:Nat):Int)=0 from rfl] at h1
  rw [h1]
  simp only [List.drop_zero] at h2
  have hn:l.all g=!l.any fun c=>!g c:=by
    rw [List.not_any_eq_all_not]; simp
  rw [hn]
  split at h2
  · rename_i hm
    obtain⟨k,hk,rfl⟩:=h2
    simp [Ex.bind,hm,hk]
  · rename_i hm
    subst h2
    simp [Ex.bind,hm]
theorem JY (s:List AX) (f:AX→Option Bool) (g:AX→Bool) (hf:∀ c∈s,f c=some (g c)) (hs:s.length≤1000000):∀ (n i:Nat),s.length<n+i→i≤s.length →
    ∃ r,Az n s f (i:Int)=some r∧(if (s.drop i).any g then ∃ k:Int,0≤k∧r=Ex.ret k else r=Ex.go ())
  | 0,i,h,hi=>by omega
  | n+1,i,h,hi=>by
    rw [Az,Ca]
    by_cases hx:i<s.length
    · simp only [hx,decide_true,cond_true,D3 _ _ hx,Option.bind_some,hf _ (List.getElem_mem hx)]
      rw [Eu i (by omega),Cr hx,List.any_cons]
      cases hv:g s[i] with
      | true=>exact⟨Ex.ret (i:Int),rfl,⟨i,by omega,rfl⟩⟩
      | false =>
        obtain⟨r,h1,h2⟩:=JY s f g hf hs n (i+1) (by omega) (by omega)
        exact⟨r,h1,by rw [Bool.false_or]; exact h2⟩
    · have:i=s.length:=by omega
      subst this
      exact⟨Ex.go (),by simp,by simp⟩
theorem OR (n:Nat) (l:List AX) (f:AX→Option Bool) (g:AX→Bool) (hf:∀ c∈l,f c=some (g c)) (h:l.length<n) (hs:l.length≤1000000):BW n l f=some (l.all g):=by
  unfold BW AM AR
  obtain⟨r,h1,h2⟩:=JY l (fun y0=>Bi n y0 f) (fun c=>!g c) (fun c hc=>by unfold Bi; rw [hf c hc]; rfl) hs n 0 (by omega) (by omega)
  rw [show((0:Nat):Int)=0 from rfl] at h1
  rw [h1]
  simp only [List.drop_zero] at h2
  have hn:l.all g=!l.any fun c=>!g c:=by
    rw [List.not_any_eq_all_not]; simp
  rw [hn]
  split at h2
  · rename_i hm
    obtain⟨k,hk,rfl⟩:=h2
    simp [Ex.bind,hm,hk]
  · rename_i hm
    subst h2
    simp [Ex.bind,hm]
def Gv:List Int→List Int→Bool
  | _,[]=>false
  | s,t::r=>s.contains t || Gv (s++[t]) r
theorem JZ (y:Ak) (hb:y.buses.length≤1000):∀ (n i:Nat)(m:List (Int×Bool))(s:List Int),y.buses.length<n+i→i≤y.buses.length→(∀ t,(FA m t false).1=s.contains t) →
    ∃ r,Bp n y (i:Int) m=some r∧(if Gv s ((y.buses.drop i).map (·.turn)) then r=Ex.ret 1 else ∃ m',r=Ex.go m')
  | 0,i,m,s,h,hi,_=>by omega
  | n+1,i,m,s,h,hi,hm=>by
    rw [Bp,Ca]
    by_cases hx:i<y.buses.length
    · simp only [hx,decide_true,cond_true,D3 _ _ hx,Option.bind_some,hm]
      rw [Eu i (by omega),Cr hx,List.map_cons,Gv]
      cases hv:s.contains y.buses[i].turn with
      | true=>exact⟨_,rfl,rfl⟩
      | false =>
        simp only [cond_false,Bool.false_or]
        refine JZ y hb n (i+1) _ (s++[y.buses[i].turn]) (by omega) (by omega) fun t=>?_
        have:=hm t
        unfold FA at this ⊢
        rw [M6]
        by_cases ht:y.buses[i].turn=t
        · simp [ht]
        · rw [if_neg ht,this]
          simp [Ne.symm ht]
    · have:i=y.buses.length:=by omega
      subst this
      exact⟨Ex.go m,by simp,by simp [Gv]⟩
def BK (y:Ak):Int :=
  if 3<y.room.length∨8<y.buses.length then 3
  else if y.room.length=0∨Fd y.broken 0 2=false∨(y.room.all fun r=>Fd r 0 8)=false∨y.buses.all Dc=false∨Gv [] (y.buses.map (·.turn))=true then 1 else 0
theorem Qv (n:Nat) (y:Ak) (hr:y.room.length≤1000) (hb:y.buses.length≤1000) (h1:y.room.length<n) (h2:y.buses.length<n):BZ n y=some (BK y):=by
  unfold BZ BK
  have e1:Dv n y.room (fun y0=>B6 n y0)=some (y.room.all fun r=>Fd r 0 8):=OQ n _ _ _ (fun c _=>by unfold B6; rw [FQ]; rfl) h1 (by omega)
  have e2:BW n y.buses (fun y0=>BP n y0)=some (y.buses.all Dc):=OR n _ _ _ (fun c _=>Qu n c) h2 (by omega)
  obtain⟨r,e3,e4⟩:=JZ y hb n 0 [] [] (by omega) (by omega) (fun t=>by simp [FA,DW])
  rw [show((0:Nat):Int)=0 from rfl] at e3
  rw [List.drop_zero] at e4
  have c1:decide (((y.room.length:Nat):Int)>3)=decide (3<y.room.length):=by by_cases h:3<y.room.length <;> simp [h] <;> omega
  have c2:decide (((y.buses.length:Nat):Int)>8)=decide (8<y.buses.length):=by by_cases h:8<y.buses.length <;> simp [h] <;> omega
  have c3:(((y.room.length:Nat):Int) == 0)=decide (y.room.length=0):=by by_cases h:y.room.length=0 <;> simp [h]
  rw [c1,c2,c3]
  by_cases a1:3<y.room.length
  · simp [a1]
  by_cases a2:8<y.buses.length
  · simp [a1,a2]
  simp only [a1,a2,decide_false,cond_false,Option.bind_some,or_self,if_false]
  by_cases a3:y.room.length=0
  · simp [a3]
  simp only [a3,decide_false,cond_false,FQ,Option.bind_some,false_or,e1,e2]
  cases a4:Fd y.broken 0 2 with
  | false=>simp
  | true =>
  cases a5:(y.room.all fun r=>Fd r 0 8) with
  | false=>simp
  | true =>
  cases a6:y.buses.all Dc with
  | false=>simp
  | true =>
  simp only [Bool.not_true,cond_false,Option.bind_some,e3]
  cases a7:Gv [] (y.buses.map (·.turn)) with
  | true =>
    rw [a7] at e4
    simp only [if_true] at e4
    subst e4
    simp [Ex.bind]
  | false =>
    rw [a7] at e4
    obtain⟨m',rfl⟩:=e4
    simp [Ex.bind]
theorem Ka (y:Ak) (hb:y.room.length≤1000):∀ (n i:Nat),y.room.length<n+i→i≤y.room.length →
    CG n y (i:Int)=some (if (y.room.drop i).all (fun r=>Fd r 0 8) then Ex.go () else Ex.ret 1)
  | 0,i,h,hi=>by omega
  | n+1,i,h,hi=>by
    rw [CG,Ca]
    by_cases hx:i<y.room.length
    · simp only [hx,decide_true,cond_true,D3 _ _ hx,Option.bind_some,HI]
      rw [Eu i (by omega),Cr hx,List.all_cons]
      cases hv:Fd y.room[i] 0 8 with
      | false=>simp
      | true=>simpa using Ka y hb n (i+1) (by omega) (by omega)
    · have:i=y.room.length:=by omega
      subst this
      simp
theorem Kb (y:Ak) (hb:y.buses.length≤1000) (k:Nat) (b:AX) (hk:k≤y.buses.length):∀ (n i:Nat),k<n+i→i≤k →
    CH n y (k:Int) b (i:Int)=some (if (((y.buses.take k).drop i).map (·.turn)).contains b.turn then Ex.ret 1 else Ex.go ())
  | 0,i,h,hi=>by omega
  | n+1,i,h,hi=>by
    rw [CH]
    by_cases hx:i<k
    · have hx':i<(y.buses.take k).length:=by rw [List.length_take]; omega
      have hl:i<y.buses.length:=by omega
      simp only [show decide ((i:Int)<(k:Int))=true by simp; omega,cond_true,D3 _ _ hl,Option.bind_some]
      rw [Eu i (by omega),Cr hx',List.map_cons,List.contains_cons,List.getElem_take]
      cases hv:(y.buses[i].turn == b.turn) with
      | true =>
        have:(b.turn == y.buses[i].turn)=true:=by rw [beq_iff_eq] at hv ⊢; exact hv.symm
        simp [this]
      | false =>
        have:(b.turn == y.buses[i].turn)=false:=by
          cases hq:(b.turn == y.buses[i].turn) with
          | false=>rfl
          | true=>rw [beq_iff_eq] at hq; rw [hq] at hv; simp at hv
        rw [this,Bool.false_or]
        simpa using Kb y hb k b hk n (i+1) (by omega) (by omega)
    · have:i=k:=by omega
      subst this
      simp
theorem Kc (y:Ak) (hb:y.buses.length≤500):∀ (n i:Nat),2*y.buses.length<n+i→i≤y.buses.length →
    CI n y (i:Int)=some (if (y.buses.drop i).all Dc=false∨Gv ((y.buses.take i).map (·.turn)) ((y.buses.drop i).map (·.turn))=true then Ex.ret 1 else Ex.go ())
  | 0,i,h,hi=>by omega
  | n+1,i,h,hi=>by
    rw [CI,Ca]
    by_cases hx:i<y.buses.length
    · simp only [hx,decide_true,cond_true,D3 _ _ hx,Option.bind_some,HI]
      have e1:=Kb y (by omega) i y.buses[i] (by omega) n 0 (by omega) (by omega)
      rw [show((0:Nat):Int)=0 from rfl] at e1
      have e2:=Kc y hb n (i+1) (by omega) (by omega)
      rw [Eu i (by omega),e1,e2,Cr hx,List.all_cons,List.map_cons,Gv,List.drop_zero]
      have e3:(y.buses.take (i+1)).map (·.turn)=(y.buses.take i).map (·.turn)++[y.buses[i].turn]:=by
        rw [List.take_succ_eq_append_getElem hx,List.map_append]; rfl
      rw [e3]
      have e4:decide (y.buses[i].hi>2000)=!decide (y.buses[i].hi≤2000):=by
        by_cases hq:y.buses[i].hi≤2000
        · simp [hq,Int.not_lt.2 hq]
        · simp [hq]; omega
      rw [e4]
      unfold Dc
      cases Fd y.buses[i].lo 0 y.buses[i].hi <;> cases decide (y.buses[i].hi≤2000) <;> cases Fd y.buses[i].turn 0 2000 <;> cases ((y.buses.take i).map (·.turn)).contains y.buses[i].turn <;> simp [Ex.bind,Dc]
    · have:i=y.buses.length:=by omega
      subst this
      simp [Gv]
theorem Qw (n:Nat) (y:Ak) (hr:y.room.length≤100) (hb:y.buses.length≤100) (h1:y.room.length<n) (h2:2*y.buses.length<n):FW n y=some (BK y):=by
  unfold FW BK
  have e1:=Ka y (by omega) n 0 (by omega) (by omega)
  have e2:=Kc y (by omega) n 0 (by omega) (by omega)
  rw [show((0:Nat):Int)=0 from rfl] at e1 e2
  simp only [List.drop_zero,List.take_zero,List.map_nil] at e1 e2
  have c1:decide (((y.room.length:Nat):Int)>3)=decide (3<y.room.length):=by by_cases h:3<y.room.length <;> simp [h] <;> omega
  have c2:decide (((y.buses.length:Nat):Int)>8)=decide (8<y.buses.length):=by by_cases h:8<y.buses.length <;> simp [h] <;> omega
  have c3:decide (((y.room.length:Nat):Int)<1)=decide (y.room.length=0):=by by_cases h:y.room.length=0 <;> simp [h] <;> omega
  rw [c1,c2,c3,e1,e2]
  by_cases a1:3<y.room.length
  · simp [a1]
  by_cases a2:8<y.buses.length
  · simp [a1,a2]
  simp only [a1,a2,decide_false,cond_false,Option.bind_some,or_self,if_false]
  by_cases a3:y.room.length=0
  · simp [a3]
  simp only [a3,decide_false,cond_false,HI,Option.bind_some,false_or]
  cases a4:Fd y.broken 0 2 <;> cases a5:(y.room.all fun r=>Fd r 0 8) <;> cases a6:y.buses.all Dc <;> cases a7:Gv [] (y.buses.map (·.turn)) <;> simp [Ex.bind]
theorem Rg (n:Nat) (y:Ak):He n y=some (decide (y.room.length≤6) && decide (y.buses.length≤12)):=by
  unfold He
  by_cases h1:y.room.length≤6 <;> by_cases h2:y.buses.length≤12
  all_goals
    have e1:decide (((y.room.length:Nat):Int)≤6)=decide (y.room.length≤6):=by simp; omega
    have e2:decide (((y.buses.length:Nat):Int)≤12)=decide (y.buses.length≤12):=by simp; omega
    rw [e1,e2]
    simp [h1,h2]
end Go.Proofs.Ythcbemnflgjadaa
namespace Go.Proofs.Ythcbemnflgjadaa
open Go Go.RowKit
def A6 (y:Ak) (b:Int):AX:=y.buses.getD b.toNat default
theorem IC (y:Ak) {b:Int} (h:Fd b 0 ((y.buses.length:Int)-1)=true):By y.buses b=some (A6 y b):=by
  rw [Cs] at h
  obtain⟨k,rfl⟩:=Int.eq_ofNat_of_zero_le h.1
  rw [D3 _ _ (by omega)]
  unfold A6
  simp [List.getD_eq_getElem?_getD,List.getElem?_eq_getElem (show k<y.buses.length by omega)]
theorem GY {y:Ak} (hv:y.buses.all Dc=true) {b:Int} (h:Fd b 0 ((y.buses.length:Int)-1)=true):0≤(A6 y b).lo∧(A6 y b).lo≤(A6 y b).hi∧(A6 y b).hi≤2000∧0≤(A6 y b).turn∧(A6 y b).turn≤2000:=by
  rw [Cs] at h
  have hl:b.toNat<y.buses.length:=by omega
  have:Dc (A6 y b)=true:=by
    unfold A6
    rw [List.getD_eq_getElem?_getD,List.getElem?_eq_getElem hl]
    exact List.all_eq_true.1 hv _ (List.getElem_mem hl)
  unfold Dc at this
  simp only [Bool.and_eq_true,Cs,decide_eq_true_eq] at this
  omega
theorem Kd (n:Nat) (y:Ak) (b:Int) (h:y.buses.length≤1000):CQ n y b=some (Fd b 0 ((y.buses.length:Int)-1)):=by
  unfold CQ
  rw [JV (by omega) (by omega),FQ]
  rfl
theorem Rh (n:Nat) (a b:Int):CC (n+2) [a,b]=some (max a b):=by
  have e1:IntKind.i64.wrap 2=2:=by decide
  by_cases h:a<b
  · have:max a b=b:=by omega
    simp [CC,Ci,AV,By,e1,h,this]
  · have:max a b=a:=by omega
    simp [CC,Ci,AV,By,e1,h,this]
theorem Nj {b:Int} (h0:0≤b) (h8:b<8):Jo 8 b=some ():=by
  unfold Jo; rw [if_pos ⟨h0,h8⟩]
theorem Pt {b:Int} (h0:0≤b) (h8:b<8):b=0∨b=1∨b=2∨b=3∨b=4∨b=5∨b=6∨b=7:=by omega
def Bh (f:Int→Bool):Ap:=⟨f 0,f 1,f 2,f 3,f 4,f 5,f 6,f 7⟩
def FR (f:Int→Int):Am:=⟨f 0,f 1,f 2,f 3,f 4,f 5,f 6,f 7⟩
theorem KZ (f:Int→Bool) {b:Int} (h0:0≤b) (h8:b<8):By (Bh f).toL b=some (f b):=by
  rcases Pt h0 h8 with h | h | h | h | h | h | h | h <;> subst h <;> rfl
theorem KJ (f:Int→Int) {b:Int} (h0:0≤b) (h8:b<8):By (FR f).toL b=some (f b):=by
  rcases Pt h0 h8 with h | h | h | h | h | h | h | h <;> subst h <;> rfl
theorem ID (f:Int→Bool) {b:Int} (h0:0≤b) (h8:b<8) (v:Bool):Ap.setI (Bh f) b v=some (Bh fun x=>if x=b then v else f x):=by
  rcases Pt h0 h8 with h | h | h | h | h | h | h | h <;> subst h <;> rfl
theorem Ri (f:Int→Int) {b:Int} (h0:0≤b) (h8:b<8) (v:Int):Am.setI (FR f) b v=some (FR fun x=>if x=b then v else f x):=by
  rcases Pt h0 h8 with h | h | h | h | h | h | h | h <;> subst h <;> rfl
theorem Ec {f g:Int→Bool} (h:∀ b,f b=g b):Bh f=Bh g:=by rw [funext h]
theorem NI {f g:Int→Int} (h:∀ b,f b=g b):FR f=FR g:=by rw [funext h]
def BL (l:List Int) (b:Int):Bool:=l.contains b
def BF (l:List Int) (b:Int):Int:=if l.contains b then(l.idxOf b:Int) else 0
theorem J8 (l:List Int) (c b:Int):BL (l++[c]) b=if b=c then true else BL l b:=by
  unfold BL
  by_cases h:b=c
  · subst h; simp
  · simp [h]
theorem PN (l:List Int) (c:Int) (hc:l.contains c=false) (b:Int):BF (l++[c]) b=if b=c then(l.length:Int) else BF l b:=by
  unfold BF
  by_cases h:b=c
  · subst h
    have hm:b ∉ l:=by simpa using hc
    simp [List.idxOf_append,hm]
  · by_cases hb:b∈l
    · simp [h,hb,List.idxOf_append]
    · simp [h,hb]
def La (y:Ak) (l:List Int):Int:=l.foldl (fun m b=>max m (A6 y b).lo) 0
theorem OS (y:Ak) (l:List Int) (b:Int):La y (l++[b])=max (La y l) (A6 y b).lo:=by
  unfold La; rw [List.foldl_append]; rfl
theorem Qx (y:Ak) (x:Int) (hx:0≤x) (l:List Int):decide (x<La y l)=l.any fun k=>decide (x<(A6 y k).lo):=by
  have key:∀ (l:List Int)(m:Int),decide (x<l.foldl (fun m b=>max m (A6 y b).lo) m)=(decide (x<m) || l.any fun k=>decide (x<(A6 y k).lo)):=by
    intro l
    induction l with
    | nil=>intro m; exact(Bool.or_false _).symm
    | cons a r ih =>
      intro m
      rw [List.foldl_cons,ih,List.any_cons,← Bool.or_assoc]
      congr 1
      by_cases h1:x<m <;> by_cases h2:x<(A6 y a).lo <;> simp [h1,h2] <;> omega
  unfold La
  rw [key]
  simp [Int.not_lt.2 hx]
def NJ (y:Ak) (pre:List Int) (b:Int):Bool:=Fd b 0 ((y.buses.length:Int)-1) && !(pre.contains b || pre.any fun k=>decide ((A6 y b).hi<(A6 y k).lo))
def GZ (y:Ak):List Int→List Int→Bool
  | _,[]=>true
  | pre,b::r=>NJ y pre b && GZ y (pre++[b]) r
def GH (y:Ak) (order:List Int):Bool:=decide (order.length=y.buses.length) && GZ y [] order
theorem Ha (y:Ak) (hb:y.buses.length≤8) (hv:y.buses.all Dc=true) (order:List Int) (ho:order.length≤1000):∀ (n i:Nat),order.length+2<n+i→i≤order.length →
    ∃ r,AW n y order (i:Int) (La y (order.take i)) (FR (BF (order.take i))) (Bh (BL (order.take i)))=some r ∧
      (if GZ y (order.take i) (order.drop i) then r=Ex.go (FR (BF order),Bh (BL order)) else ∃ x,r=Ex.ret (x,false))
  | 0,i,h,hi=>by omega
  | n+1,i,h,hi=>by
    rw [AW,Ca]
    by_cases hx:i<order.length
    · obtain⟨n,rfl⟩:∃ m,n=m+2:=⟨n-2,by omega⟩
      simp only [hx,decide_true,cond_true,D3 _ _ hx,Option.bind_some,Kd _ y _ (by omega)]
      rw [Cr hx,GZ]
      unfold NJ
      cases h1:Fd order[i] 0 ((y.buses.length:Int)-1) with
      | false=>exact⟨_,rfl,by simp⟩
      | true =>
        have h1':=Cs.1 h1
        have h8:order[i]<8:=by omega
        simp only [Bool.not_true,cond_false,Nj h1'.1 h8,Option.bind_some,KZ _ h1'.1 h8,IC y h1]
        cases h2:BL (order.take i) order[i] with
        | true =>
          have h2':(order.take i).contains order[i]=true:=h2
          exact⟨_,rfl,by rw [h2']; simp⟩
        | false =>
          have h2':(order.take i).contains order[i]=false:=h2
          simp only [cond_false,Option.bind_some,Qx y _ (show 0≤(A6 y order[i]).hi by have:=GY hv h1; omega)]
          cases h3:(order.take i).any fun k=>decide ((A6 y order[i]).hi<(A6 y k).lo) with
          | true=>exact⟨_,rfl,by rw [h2']; simp⟩
          | false =>
            simp only [cond_false,ID _ h1'.1 h8,Option.bind_some,Rh,Ri _ h1'.1 h8]
            rw [Eu i (by omega),← OS]
            have e1:order.take i++[order[i]]=order.take (i+1):=(List.take_succ_eq_append_getElem hx).symm
            have e2:(Bh fun x=>if x=order[i] then true else BL (order.take i) x)=Bh (BL (order.take (i+1))):=Ec fun b=>by rw [← e1,J8]
            have e3:(FR fun x=>if x=order[i] then(i:Int) else BF (order.take i) x)=FR (BF (order.take (i+1))):=NI fun b=>by
              rw [← e1,PN _ _ h2',List.length_take,Nat.min_eq_left (Nat.le_of_lt hx)]
            rw [e1,e2,e3,h2']
            simp only [Bool.or_self,Bool.not_false,Bool.and_self,Bool.true_and]
            exact Ha y hb hv order ho (n+2) (i+1) (by omega) (by omega)
    · have:i=order.length:=by omega
      subst this
      simp [GZ]
theorem R0:(Am.mk 0 0 0 0 0 0 0 0)=FR (BF []):=rfl
theorem R1:(Ap.mk false false false false false false false false)=Bh (BL []):=rfl
theorem NK (n:Nat) (y:Ak) (hb:y.buses.length≤8) (hv:y.buses.all Dc=true) (order:List Int) (ho:order.length≤1000) (hn:order.length+2<n) :
    ∃ x,Cj n y order=some (x,GH y order)∧(GH y order=true→x=FR (BF order)):=by
  unfold Cj GH
  by_cases hl:order.length=y.buses.length
  · obtain⟨r,h1,h2⟩:=Ha y hb hv order ho n 0 (by omega) (by omega)
    rw [show((0:Nat):Int)=0 from rfl] at h1
    simp only [List.take_zero,List.drop_zero] at h1 h2
    have e0:La y []=0:=rfl
    rw [e0] at h1
    rw [R0,R1,h1]
    rw [show((order.length:Int) != (y.buses.length:Int))=false by simp [hl]]
    simp only [cond_false,Option.bind_some,hl,decide_true,Bool.true_and]
    split at h2
    · rename_i hp
      subst h2
      exact⟨_,by rw [hp]; rfl,fun _=>rfl⟩
    · rename_i hp
      obtain⟨x,rfl⟩:=h2
      exact⟨x,by simp [Ex.bind,hp],fun h=>absurd h hp⟩
  · rw [show((order.length:Int) != (y.buses.length:Int))=true by simp; omega]
    simp only [cond_true]
    exact⟨FR (BF []),by rw [R0]; simp [hl],fun h=>by simp [hl] at h⟩
theorem Ed {y:Ak} (h:BK y=0):y.room.length≤3∧0<y.room.length∧y.buses.length≤8∧Fd y.broken 0 2=true∧(y.room.all fun r=>Fd r 0 8)=true∧y.buses.all Dc=true∧Gv [] (y.buses.map (·.turn))=false:=by
  unfold BK at h
  split at h
  · omega
  · split at h
    · omega
    · rename_i h1 h2
      simp only [not_or] at h2
      simp only [Bool.not_eq_false,Bool.not_eq_true] at h2
      exact⟨by omega,by omega,by omega,h2.2.1,h2.2.2.1,h2.2.2.2.1,h2.2.2.2.2⟩
end Go.Proofs.Ythcbemnflgjadaa
namespace Go.Proofs.Ythcbemnflgjadaa
open Go Go.RowKit
theorem Rj {α:Type} (p:List α) (x:α) (r:List α):(p++x::r)[p.length]? = some x:=by simp
theorem Rl {α:Type} (p:List α) (x z:α) (r:List α):(p++x::r).set p.length z=p++z::r:=by
  rw [List.set_append_right _ _ (Nat.le_refl _),Nat.sub_self]; rfl
theorem EW {α:Type} (p:List α) (x:α) (r:List α) {k:Nat} (hk:k=p.length):By (p++x::r) (k:Int)=some x:=by subst hk; rw [Rf,Rj]
theorem HJ {α:Type} (p:List α) (x z:α) (r:List α) {k:Nat} (hk:k=p.length):upd (p++x::r) (k:Int) z=some (p++z::r):=by
  subst hk; rw [Sh _ _ _ (by simp),Rl]
def Hb (lt:Int→Int→Bool) (x:Int):List Int→List Int
  | []=>[x]
  | y::r=>if lt x y then y::Hb lt x r else x::y::r
def NL (lt:Int→Int→Bool) (l:List Int) (x:Int):List Int:=(Hb lt x l.reverse).reverse
def Eb (lt:Int→Int→Bool) (l:List Int):List Int:=l.foldl (NL lt) []
theorem J9 (lt:Int→Int→Bool) (x:Int):∀ l,(Hb lt x l).Perm (x::l)
  | []=>.refl _
  | y::r=>by
    unfold Hb
    split
    · exact((J9 lt x r).cons y).trans (.swap x y r)
    · exact .refl _
theorem PO (lt:Int→Int→Bool) (l:List Int) (x:Int):(NL lt l x).Perm (l++[x]):=by
  unfold NL
  refine(List.reverse_perm _).trans ((J9 lt x _).trans ?_)
  refine((List.reverse_perm l).cons x).trans ?_
  exact(List.perm_append_singleton x l).symm
theorem GI (lt:Int→Int→Bool):∀ (l acc:List Int),(l.foldl (NL lt) acc).Perm (acc++l)
  | [],acc=>by simp
  | x::r,acc=>by
    rw [List.foldl_cons]
    refine(GI lt r _).trans ?_
    refine((PO lt acc x).append_right r).trans ?_
    simp
theorem DT (lt:Int→Int→Bool) (l:List Int):(Eb lt l).Perm l:=by simpa [Eb] using GI lt l []
theorem DU (lt:Int→Int→Bool) (l:List Int):(Eb lt l).length=l.length:=(DT lt l).length_eq
theorem M8 (lt:Int→Int→Bool) (l:List Int) (x:Int):Eb lt (l++[x])=NL lt (Eb lt l) x:=by simp [Eb,List.foldl_append]
theorem Ke {lt:Int→Int→Bool} {le:Int→Int→Prop} (h1:∀ a b,lt a b=true→le a b) (h2:∀ a b,lt a b=false→le b a) (ht:∀ a b c,le a b→le b c→le a c) (x:Int) :
    ∀ l:List Int,l.Pairwise (fun a b=>le b a)→(Hb lt x l).Pairwise (fun a b=>le b a)
  | [],_=>by simp [Hb]
  | y::r,h=>by
    rw [List.pairwise_cons] at h
    unfold Hb
    split
    · rename_i hx
      rw [List.pairwise_cons]
      refine⟨fun z hz=>?_,Ke h1 h2 ht x r h.2⟩
      rcases List.mem_cons.1 ((J9 lt x r).mem_iff.1 hz) with rfl | hz
      · exact h1 _ _ hx
      · exact h.1 z hz
    · rename_i hx
      have hyx:=h2 x y (by simpa using hx)
      rw [List.pairwise_cons,List.pairwise_cons]
      refine⟨fun z hz=>?_,h⟩
      rcases List.mem_cons.1 hz with rfl | hz
      · exact hyx
      · exact ht _ _ _ (h.1 z hz) hyx
theorem NM {lt:Int→Int→Bool} {le:Int→Int→Prop} (h1:∀ a b,lt a b=true→le a b) (h2:∀ a b,lt a b=false→le b a) (ht:∀ a b c,le a b→le b c→le a c) (l:List Int):(Eb lt l).Pairwise le:=by
  have key:∀ (l acc:List Int),acc.Pairwise le→(l.foldl (NL lt) acc).Pairwise le:=by
    intro l
    induction l with
    | nil=>intro acc h; exact h
    | cons x r ih =>
      intro acc h
      rw [List.foldl_cons]
      refine ih _ ?_
      unfold NL
      rw [List.pairwise_reverse]
      exact Ke h1 h2 ht x _ (List.pairwise_reverse.2 h)
  exact key l [] List.Pairwise.nil
theorem Lb (cmp:Int→Int→Option Int) (lt:Int→Int→Bool) (x:Int):∀ (A B:List Int)(n:Nat),A.length<n→A.length≤1000000→(∀ y∈A,∃ d,cmp x y=some d∧decide (d<0)=lt x y) →
    Aw n 0 cmp (A.reverse++x::B) (A.length:Int)=some ((Hb lt x A).reverse++B)
  | _,_,0,h,_,_=>by omega
  | [],B,n+1,_,_,_=>by
    rw [Aw]
    simp [Hb]
  | y::A,B,n+1,h,hl,hc=>by
    obtain⟨d,hd,hlt⟩:=hc y (by simp)
    have hl':A.length+1≤1000000:=by simpa using hl
    have e0:(y::A).reverse++x::B=A.reverse++y::x::B:=by simp
    have e1:(y::A).reverse++x::B=(A.reverse++[y])++x::B:=by simp
    have hk:(A.reverse++[y]).length=A.length+1:=by simp
    have i1:By ((y::A).reverse++x::B) ((A.length+1:Nat):Int)=some x:=by rw [e1,EW _ _ _ hk.symm]
    have i2:By ((y::A).reverse++x::B) (A.length:Int)=some y:=by rw [e0,EW _ _ _ (by simp)]
    have u1:upd ((y::A).reverse++x::B) ((A.length+1:Nat):Int) y=some (A.reverse++y::y::B):=by rw [e1,HJ _ _ _ _ hk.symm]; simp
    have i3:By (A.reverse++y::y::B) (A.length:Int)=some y:=EW _ _ _ (by simp)
    have u2:upd (A.reverse++y::y::B) (A.length:Int) x=some (A.reverse++x::y::B):=HJ _ _ _ _ (by simp)
    have w1:IntKind.i64.wrap (((A.length+1:Nat):Int)-1)=(A.length:Int):=by rw [JV (by omega) (by omega)]; omega
    have g1:decide (((A.length+1:Nat):Int)>0)=true:=decide_eq_true (by omega)
    rw [Aw,List.length_cons]
    simp only [g1,cond_true,i1,i2,w1,Option.bind_some,hd,hlt]
    unfold Hb
    cases hx:lt x y with
    | false=>simp
    | true =>
      simp only [cond_true,u1,i3,u2,Option.bind_some,if_true]
      rw [Lb cmp lt x A (y::B) n (by simp at h; omega) (by omega) fun z hz=>hc z (by simp [hz])]
      simp
theorem Lc (cmp:Int→Int→Option Int) (lt:Int→Int→Bool) (l:List Int) (hl:l.length≤1000) (hc:∀ x∈l,∀ y∈l,∃ d,cmp x y=some d∧decide (d<0)=lt x y):∀ (n i:Nat),2*l.length+2≤n+i→i≤l.length →
    Ax n 0 (l.length:Int) cmp (Eb lt (l.take i)++l.drop i) (i:Int)=some (Eb lt l)
  | 0,i,h,hi=>by omega
  | n+1,i,h,hi=>by
    rw [Ax]
    by_cases hx:i<l.length
    · have h1:=Lb cmp lt l[i] (Eb lt (l.take i)).reverse (l.drop (i+1)) n (by simp [DU]; omega) (by simp [DU]; omega) (fun y hy=>hc _ (List.getElem_mem hx) y (by
        have:=(DT lt (l.take i)).mem_iff.1 (List.mem_reverse.1 hy)
        exact List.mem_of_mem_take this))
      rw [List.reverse_reverse,List.length_reverse,DU,List.length_take,Nat.min_eq_left (Nat.le_of_lt hx),← Cr hx] at h1
      have e1:(Hb lt l[i] (Eb lt (l.take i)).reverse).reverse=Eb lt (l.take (i+1)):=by
        rw [List.take_succ_eq_append_getElem hx,M8]; rfl
      rw [show decide ((i:Int)<(l.length:Int))=true by simp; omega,cond_true,h1,Option.bind_some,Eu i (by omega),e1]
      exact Lc cmp lt l hl hc n (i+1) (by omega) (by omega)
    · have:i=l.length:=by omega
      subst this
      simp
theorem Nk (n:Nat) (cmp:Int→Int→Option Int) (lt:Int→Int→Bool) (l:List Int) (hl:l.length≤1000) (hc:∀ x∈l,∀ y∈l,∃ d,cmp x y=some d∧decide (d<0)=lt x y) (hn:2*l.length+2≤n) :
    AO n l 0 (l.length:Int) cmp=some (Eb lt l):=by
  unfold AO
  have e1:IntKind.i64.wrap (0+1)=((1:Nat):Int):=by decide
  rw [e1]
  cases l with
  | nil =>
    obtain⟨m,rfl⟩:∃ m,n=m+1:=⟨n-1,by simp at hn; omega⟩
    rw [Ax]
    simp [Eb]
  | cons x r =>
    have h1:=Lc cmp lt (x::r) hl hc n 1 (by omega) (by simp)
    have e2:Eb lt ((x::r).take 1)++(x::r).drop 1=x::r:=by simp [Eb,NL,Hb]
    rw [e2] at h1
    rw [h1]
    rfl
theorem Kf (n:Nat) (cmp:Int→Int→Option Int) (lt:Int→Int→Bool) (l:List Int) (hl:l.length≤12) (hc:∀ x∈l,∀ y∈l,∃ d,cmp x y=some d∧decide (d<0)=lt x y) (hn:2*l.length+4≤n) :
    AA n l cmp=some (Eb lt l):=by
  unfold AA E3
  have w1:IntKind.u64.wrap (l.length:Int)=(l.length:Int):=by
    simp [IntKind.wrap,IntKind.bits,IntKind.signed]; omega
  rw [w1,if_pos ⟨by simp,by simp; omega⟩]
  obtain⟨m,rfl⟩:∃ m,n=m+2:=⟨n-2,by omega⟩
  simp only [Option.bind_some]
  rw [AQ,AT]
  have w2:IntKind.i64.wrap ((l.length:Int)-0)=(l.length:Int):=by rw [JV (by omega) (by omega)]; omega
  have c1:decide ((l.length:Int)≤12)=true:=by simp; omega
  rw [w2,c1,cond_true,Nk m cmp lt l (by omega) hc (by omega)]
  rfl
def C3 (key:Int→Int) (a b:Int):Bool:=decide (key a<key b)
theorem Ld (key:Int→Int) (l:List Int):(Eb (C3 key) l).Pairwise fun a b=>key a≤key b :=
  NM (le:=fun a b=>key a≤key b) (fun a b h=>by simp [C3] at h; omega) (fun a b h=>by simp [C3] at h; omega) (fun a b c h1 h2=>Int.le_trans h1 h2) l
end Go.Proofs.Ythcbemnflgjadaa
namespace Go.Proofs.Ythcbemnflgjadaa
open Go Go.RowKit
def An (n:Nat):List Int:=(List.range n).map fun(k:Nat)=>(k:Int)
theorem CB (n:Nat):An (n+1)=An n++[(n:Int)]:=by simp [An,List.range_succ]
theorem BY (n:Nat):(An n).length=n:=by simp [An]
theorem AI {n:Nat} {b:Int}:b∈An n↔0≤b∧b<n:=by
  unfold An
  rw [List.mem_map]
  constructor
  · rintro⟨k,hk,rfl⟩
    rw [List.mem_range] at hk
    omega
  · intro h
    exact⟨b.toNat,by rw [List.mem_range]; omega,by omega⟩
theorem C4 {y:Ak} {b:Int}:Fd b 0 ((y.buses.length:Int)-1)=true↔b∈An y.buses.length:=by
  rw [Cs,AI]; omega
theorem Cb:∀ n,(An n).Nodup
  | 0=>by simp [An]
  | n+1=>by
    rw [CB,List.nodup_append]
    refine⟨Cb n,by simp,fun a ha b hb=>?_⟩
    rw [AI] at ha
    simp at hb
    omega
def CF (y:Ak) (b:Int):Int:=(A6 y b).turn
def Mr (y:Ak) (f:Int→Bool):List Int:=(An y.buses.length).filter fun b=>!f b
def D8 (y:Ak) (f:Int→Bool):List Int:=Eb (C3 (CF y)) (Mr y f)
theorem Le {y:Ak} {f:Int→Bool} {b:Int}:b∈Mr y f↔b∈An y.buses.length∧f b=false:=by
  unfold Mr
  rw [List.mem_filter]
  simp
theorem DK {y:Ak} {f:Int→Bool} {b:Int}:b∈D8 y f↔b∈An y.buses.length∧f b=false:=by
  unfold D8
  rw [(DT _ _).mem_iff,Le]
theorem NN (y:Ak) (f:Int→Bool):(Mr y f).length≤y.buses.length:=by
  unfold Mr
  exact Nat.le_trans (List.length_filter_le _ _) (by rw [BY]; exact Nat.le_refl _)
theorem Lf (y:Ak) (f:Int→Bool):(D8 y f).length≤y.buses.length:=by
  unfold D8
  rw [DU]
  exact NN y f
theorem Nl (y:Ak) (f:Int→Bool):(D8 y f).Nodup:=by
  unfold D8
  rw [(DT _ _).nodup_iff]
  unfold Mr
  exact List.Pairwise.filter _ (Cb _)
theorem Kg (y:Ak) (f:Int→Bool) (hb:y.buses.length≤8):∀ (n i:Nat),y.buses.length<n+i→i≤y.buses.length →
    Be n y (Bh f) ((An i).filter fun b=>!f b) (i:Int)=some (Mr y f)
  | 0,i,h,hi=>by omega
  | n+1,i,h,hi=>by
    rw [Be,Ca]
    by_cases hx:i<y.buses.length
    · have h0:(0:Int)≤(i:Int):=by omega
      have h8:(i:Int)<8:=by omega
      simp only [hx,decide_true,cond_true,Nj h0 h8,KZ _ h0 h8,Option.bind_some]
      have ih:=Kg y f hb n (i+1) (by omega) (by omega)
      rw [CB,List.filter_append] at ih
      rw [Eu i (by omega)]
      have hlen:=List.length_filter_le (fun b=>!f b) (An i)
      rw [BY] at hlen
      cases hf:f (i:Int) with
      | true =>
        simp only [Bool.not_true,cond_false]
        rw [← ih]
        simp [hf]
      | false =>
        simp only [Bool.not_false,cond_true]
        rw [Ff _ _ (by simp; omega),Option.bind_some,← ih]
        simp [hf]
    · have:i=y.buses.length:=by omega
      subst this
      simp [Mr]
theorem PP (n:Nat) {y:Ak} (hv:y.buses.all Dc=true) {a b:Int} (ha:a∈An y.buses.length) (hb:b∈An y.buses.length) :
    ∃ d,Bj n a b y=some d∧decide (d<0)=C3 (CF y) a b:=by
  rw [← C4] at ha hb
  have h1:=GY hv ha
  have h2:=GY hv hb
  unfold Bj
  rw [IC y ha,IC y hb]
  refine⟨_,rfl,?_⟩
  rw [JV (by omega) (by omega)]
  unfold C3 CF
  by_cases h:(A6 y a).turn<(A6 y b).turn
  · rw [decide_eq_true h,decide_eq_true (by omega)]
  · rw [decide_eq_false h,decide_eq_false (by omega)]
theorem Qy (n:Nat) (y:Ak) (f:Int→Bool) (hb:y.buses.length≤8) (hv:y.buses.all Dc=true) (hn:20≤n):Cp n y (Bh f)=some (D8 y f):=by
  unfold Cp
  have e1:=Kg y f hb n 0 (by omega) (by omega)
  rw [show((0:Nat):Int)=0 from rfl] at e1
  have hl:=NN y f
  have e2:=Kf n (fun y0 y1=>Bj n y0 y1 y) (C3 (CF y)) (Mr y f) (by omega) (fun a ha b hb=>PP n hv (Le.1 ha).1 (Le.1 hb).1) (by omega)
  rw [show(An 0).filter (fun b=>!f b)=([]:List Int) from rfl] at e1
  rw [e1,Option.bind_some,e2]
  rfl
def BU (m:Nat) (g:Int→Int):List Int:=(An m).map g
theorem HK (m:Nat) (g:Int→Int):(BU m g).length=m:=by simp [BU,BY]
theorem Nm {m:Nat} {g:Int→Int} {k:Nat} (h:k<m):(BU m g)[k]? = some (g (k:Int)):=by
  unfold BU An
  rw [List.getElem?_map,List.getElem?_map,List.getElem?_range h]
  rfl
theorem Gw {m:Nat} {g:Int→Int} {b:Int} (h:Fd b 0 ((m:Int)-1)=true):By (BU m g) b=some (g b):=by
  rw [Cs] at h
  obtain⟨k,rfl⟩:=Int.eq_ofNat_of_zero_le h.1
  rw [Rf,Nm (by omega)]
theorem Nn {m:Nat} {g:Int→Int} {l:List Int} (hl:l.length=m) (h:∀ k,k<m→l[k]? = some (g (k:Int))):l=BU m g:=by
  apply List.ext_getElem?
  intro k
  rcases Nat.lt_or_ge k m with hk | hk
  · rw [h k hk,Nm hk]
  · rw [List.getElem?_eq_none (by omega),List.getElem?_eq_none (by rw [HK]; omega)]
theorem KM {m:Nat} {g:Int→Int} {b v:Int} (h:Fd b 0 ((m:Int)-1)=true):upd (BU m g) b v=some (BU m fun x=>if x=b then v else g x):=by
  rw [Cs] at h
  obtain⟨k,rfl⟩:=Int.eq_ofNat_of_zero_le h.1
  rw [Sh _ _ _ (by rw [HK]; omega)]
  congr 1
  refine Nn (by rw [List.length_set,HK]) fun j hj=>?_
  by_cases hjk:j=k
  · subst hjk
    rw [List.getElem?_set_self (by rw [HK]; omega)]
    simp
  · rw [List.getElem?_set_ne (Ne.symm hjk),Nm hj,if_neg (by omega)]
theorem NO (l:List Int):l=BU l.length fun k=>l.getD k.toNat 0:=Nn rfl fun k hk=>by
  rw [List.getElem?_eq_getElem hk]
  simp [List.getD_eq_getElem?_getD,List.getElem?_eq_getElem hk]
theorem NP (m:Nat):List.replicate m (0:Int)=BU m fun _=>0:=Nn (by simp) fun k hk=>by
  rw [List.getElem?_replicate,if_pos hk]
def Cv (room:List Int) (k:Int):Int:=room.getD k.toNat 0
def D9 (room:List Int):List Int→List Int→Bool
  | _,[]=>true
  | pre,n::r=>Fd n 0 ((room.length:Int)-1) && (decide ((pre.count n:Int)<Cv room n) && D9 room (pre++[n]) r)
def Fg (y:Ak) (l:List Int):Bool:=decide (l.length=y.buses.length) && D9 y.room [] l
theorem M9 {room:List Int} (h:(room.all fun r=>Fd r 0 8)=true) {k:Int} (hk:Fd k 0 ((room.length:Int)-1)=true):0≤Cv room k∧Cv room k≤8:=by
  rw [Cs] at hk
  have hl:k.toNat<room.length:=by omega
  unfold Cv
  rw [List.getD_eq_getElem?_getD,List.getElem?_eq_getElem hl]
  exact Cs.1 (List.all_eq_true.1 h _ (List.getElem_mem hl))
theorem It (pre:List Int) (n k:Int):((pre++[n]).count k:Int)=(pre.count k:Int)+(if k=n then 1 else 0):=by
  rw [List.count_append,List.count_singleton]
  by_cases h:k=n
  · subst h; simp
  · have:(n == k)=false:=by
      cases hq:(n == k) with
      | false=>rfl
      | true=>rw [beq_iff_eq] at hq; exact absurd hq.symm h
    simp [h,this]
theorem Kh (room:List Int) (hr:(room.all fun r=>Fd r 0 8)=true) (hm:room.length≤1000) (l:List Int) (hl:l.length≤1000):∀ (n i:Nat),l.length<n+i→i≤l.length→(∀ k,Fd k 0 ((room.length:Int)-1)=true→((l.take i).count k:Int)≤Cv room k) →
    ∃ r,Bq n l (BU room.length fun k=>Cv room k-((l.take i).count k:Int)) (i:Int)=some r∧(if D9 room (l.take i) (l.drop i) then ∃ x,r=Ex.go x else r=Ex.ret false)
  | 0,i,h,hi,_=>by omega
  | n+1,i,h,hi,hc=>by
    rw [Bq,Ca]
    by_cases hx:i<l.length
    · simp only [hx,decide_true,cond_true,D3 _ _ hx,Option.bind_some,FQ,HK]
      rw [JV (x:=(room.length:Int)-1) (by omega) (by omega),Cr hx,D9]
      cases h1:Fd l[i] 0 ((room.length:Int)-1) with
      | false=>exact⟨_,rfl,by simp⟩
      | true =>
        have hk:=hc _ h1
        have hR:=M9 hr h1
        simp only [Bool.not_true,cond_false,Gw h1,Option.bind_some]
        by_cases h2:((l.take i).count l[i]:Int)<Cv room l[i]
        · have e0:(Cv room l[i]-((l.take i).count l[i]:Int) == 0)=false:=by
            cases hq:(Cv room l[i]-((l.take i).count l[i]:Int) == 0) with
            | false=>rfl
            | true=>rw [beq_iff_eq] at hq; omega
          rw [e0]
          simp only [cond_false,KM h1,Option.bind_some]
          rw [Eu i (by omega),JV (by omega) (by omega),decide_eq_true h2]
          have e1:l.take i++[l[i]]=l.take (i+1):=(List.take_succ_eq_append_getElem hx).symm
          have e2:(BU room.length fun x=>if x=l[i] then Cv room l[i]-((l.take i).count l[i]:Int)-1 else Cv room x-((l.take i).count x:Int))=BU room.length fun k=>Cv room k-((l.take (i+1)).count k:Int):=by
            congr 1
            funext x
            rw [← e1,It]
            by_cases hxe:x=l[i]
            · rw [if_pos hxe,if_pos hxe,hxe]; omega
            · rw [if_neg hxe,if_neg hxe]; omega
          rw [e1,e2]
          simp only [Bool.true_and]
          refine Kh room hr hm l hl n (i+1) (by omega) (by omega) fun k hkk=>?_
          rw [← e1,It]
          have:=hc k hkk
          split
          · rename_i hke; rw [hke]; omega
          · omega
        · have e0:(Cv room l[i]-((l.take i).count l[i]:Int) == 0)=true:=by rw [beq_iff_eq]; omega
          rw [e0,decide_eq_false h2]
          exact⟨_,rfl,by simp⟩
    · have:i=l.length:=by omega
      subst this
      exact⟨Ex.go _,by simp; rfl,by simp [D9]⟩
theorem Qz (n:Nat) (y:Ak) (hr:(y.room.all fun r=>Fd r 0 8)=true) (hm:y.room.length≤1000) (l:List Int) (hl:l.length≤1000) (hn:l.length<n):Co n y l=some (Fg y l):=by
  unfold Co Fg
  by_cases he:l.length=y.buses.length
  · rw [show((l.length:Int) != (y.buses.length:Int))=false by simp [he],cond_false,Qt n _ hm,Option.bind_some]
    obtain⟨r,h1,h2⟩:=Kh y.room hr hm l hl n 0 (by omega) (by omega) (fun k hk=>by simp; exact(M9 hr hk).1)
    have e1:(BU y.room.length fun k=>Cv y.room k-(((l.take 0).count k:Nat):Int))=y.room:=by
      refine Eq.trans ?_ (NO y.room).symm
      congr 1
      funext k
      simp [Cv]
    rw [e1,show((0:Nat):Int)=0 from rfl] at h1
    rw [h1]
    simp only [List.take_zero,List.drop_zero] at h2
    split at h2
    · rename_i hq
      obtain⟨x,rfl⟩:=h2
      simp [Ex.bind,he,hq]
    · rename_i hq
      subst h2
      simp [Ex.bind,he,hq]
  · rw [show((l.length:Int) != (y.buses.length:Int))=true by simp; omega]
    simp [he]
end Go.Proofs.Ythcbemnflgjadaa
namespace Go.Proofs.Ythcbemnflgjadaa
open Go Go.RowKit
def IE (y:Ak):Int→List Int→Bool
  | _,[]=>true
  | last,b::r=>Fd b 0 ((y.buses.length:Int)-1) && (decide (last<b) && IE y b r)
def GJ (y:Ak) (l:List Int):Bool:=IE y (-1) l && decide ((l.length:Int)≤y.broken)
theorem Lg (y:Ak) (hb:y.buses.length≤8) (l:List Int) (hl:l.length≤1000):∀ (n i:Nat)(last:Int),l.length<n+i→i≤l.length →
    ∃ r,B7 n y l (i:Int) last (Bh (BL (l.take i)))=some r∧(if IE y last (l.drop i) then r=Ex.go (Bh (BL l)) else ∃ x,r=Ex.ret (x,false))
  | 0,i,last,h,hi=>by omega
  | n+1,i,last,h,hi=>by
    rw [B7,Ca]
    by_cases hx:i<l.length
    · simp only [hx,decide_true,cond_true,D3 _ _ hx,Option.bind_some,Kd _ y _ (by omega)]
      rw [Cr hx,IE]
      cases h1:Fd l[i] 0 ((y.buses.length:Int)-1) with
      | false=>exact⟨_,rfl,by simp⟩
      | true =>
        have h1':=Cs.1 h1
        have h8:l[i]<8:=by omega
        by_cases h2:last<l[i]
        · simp only [Bool.not_true,cond_false,decide_eq_false (show ¬ l[i]≤last by omega),decide_eq_true h2,Nj h1'.1 h8,ID _ h1'.1 h8,Option.bind_some,Bool.true_and]
          rw [Eu i (by omega)]
          have e1:l.take i++[l[i]]=l.take (i+1):=(List.take_succ_eq_append_getElem hx).symm
          have e2:(Bh fun x=>if x=l[i] then true else BL (l.take i) x)=Bh (BL (l.take (i+1))):=Ec fun b=>by rw [← e1,J8]
          rw [e2]
          exact Lg y hb l hl n (i+1) l[i] (by omega) (by omega)
        · rw [decide_eq_false h2]
          simp only [Bool.not_true,cond_false,decide_eq_true (show l[i]≤last by omega),Option.bind_some,cond_true]
          exact⟨_,rfl,by simp⟩
    · have:i=l.length:=by omega
      subst this
      exact⟨Ex.go _,by simp; rfl,by simp [IE]⟩
theorem Rm (n:Nat) (y:Ak) (hb:y.buses.length≤8) (l:List Int) (hl:l.length≤1000) (hn:l.length<n) :
    ∃ x,Df n y l=some (x,GJ y l)∧(GJ y l=true→x=Bh (BL l)):=by
  unfold Df GJ
  obtain⟨r,h1,h2⟩:=Lg y hb l hl n 0 (-1) (by omega) (by omega)
  rw [show((0:Nat):Int)=0 from rfl,List.take_zero] at h1
  rw [List.drop_zero] at h2
  rw [R1,h1,Option.bind_some]
  split at h2
  · rename_i hq
    subst h2
    exact⟨_,by rw [hq]; rfl,fun _=>rfl⟩
  · rename_i hq
    obtain⟨x,rfl⟩:=h2
    exact⟨x,by simp [Ex.bind,hq],fun h=>by simp [hq] at h⟩
def F7 (y:Ak) (lanes order broken:List Int):Bool:=Fg y lanes && (GH y order && GJ y broken)
def BV (y:Ak) (lanes order broken:List Int):Int:=if BK y=0 then(if F7 y lanes order broken then 0 else 2) else BK y
def Du (y:Ak) (lanes order broken:List Int):BJ:=⟨y,lanes,FR (BF order),Bh (BL broken)⟩
theorem Q0 (n:Nat) (y:Ak) (lanes order broken:List Int) (hr:y.room.length≤100) (hb:y.buses.length≤100) (h1:lanes.length≤100) (h2:order.length≤100) (h3:broken.length≤100) (hn:200≤n) :
    ∃ x,CP n y lanes order broken=some (x,BV y lanes order broken)∧(BV y lanes order broken=0→x=Du y lanes order broken):=by
  unfold CP BV
  rw [Qv n y (by omega) (by omega) (by omega) (by omega),Option.bind_some]
  by_cases hf:BK y=0
  · obtain⟨v1,v0,v2,v3,v4,v5,v6⟩:=Ed hf
    obtain⟨x1,p1,p2⟩:=NK n y v2 v5 order (by omega) (by omega)
    obtain⟨x2,q1,q2⟩:=Rm n y v2 broken (by omega) (by omega)
    rw [hf,p1,q1,Qz n y v4 (by omega) lanes (by omega) (by omega)]
    simp only [Option.bind_some,bne_self_eq_false,cond_false,if_true]
    unfold F7
    cases a1:GH y order with
    | false=>exact⟨_,by simp; rfl,fun h=>by simp at h⟩
    | true =>
      cases a2:GJ y broken with
      | false=>exact⟨_,by simp; rfl,fun h=>by simp at h⟩
      | true =>
        cases a3:Fg y lanes with
        | false=>exact⟨_,by simp; rfl,fun h=>by simp at h⟩
        | true=>exact⟨_,by simp; rfl,fun _=>by rw [p2 a1,q2 a2]; rfl⟩
  · have hn:(BK y != 0)=true:=by simp [hf]
    rw [hn,if_neg hf]
    exact⟨_,rfl,fun h=>absurd h hf⟩
theorem IF {σ:Type} (step:σ→Int→Option σ) (q:List Int) (hq:q.length≤1000):∀ (n i:Nat)(s:σ),q.length<n+i→i≤q.length →
    AG n (fun s x=>(step s x).bind fun s1=>some (s1,true)) q (i:Int) s=((q.drop i).foldlM step s).map Ex.go
  | 0,i,s,h,hi=>by omega
  | n+1,i,s,h,hi=>by
    rw [AG,Ca]
    by_cases hx:i<q.length
    · simp only [hx,decide_true,cond_true,D3 _ _ hx,Option.bind_some]
      rw [Eu i (by omega),Cr hx,List.foldlM_cons]
      cases hs:step s q[i] with
      | none=>rfl
      | some s' =>
        simp only [Option.bind_some,Bool.not_true,cond_false]
        rw [IF step q hq n (i+1) s' (by omega) (by omega)]
        rfl
    · have:i=q.length:=by omega
      subst this
      simp
theorem PQ {σ:Type} (n:Nat) (step:σ→Int→Option σ) (s:σ) (q:List Int) (hq:q.length≤1000) (hn:q.length<n) :
    Bb n (fun s x=>(step s x).bind fun s1=>some (s1,true)) s q=q.foldlM step s:=by
  unfold Bb
  have e1:=IF step q hq n 0 s (by omega) (by omega)
  rw [show((0:Nat):Int)=0 from rfl,List.drop_zero] at e1
  rw [e1]
  cases q.foldlM step s <;> rfl
def Bo (lanes:List Int) (b:Int):Int:=lanes.getD b.toNat 0
theorem Lh (lanes:List Int) {b:Int} (h0:0≤b) (h:b<lanes.length):By lanes b=some (Bo lanes b):=by
  obtain⟨k,rfl⟩:=Int.eq_ofNat_of_zero_le h0
  rw [D3 _ _ (by omega)]
  unfold Bo
  simp [List.getD_eq_getElem?_getD,List.getElem?_eq_getElem (show k<lanes.length by omega)]
def NF (lanes order:List Int) (c b:Int):Bool:=Bo lanes c == Bo lanes b && decide (BF order c<BF order b)
theorem PR (n:Nat) (y:Ak) (lanes order broken:List Int) (hl:lanes.length=y.buses.length) (hb:y.buses.length≤8) {c b:Int} (hc:c∈An y.buses.length) (hbb:b∈An y.buses.length) :
    BX n (Du y lanes order broken) c b=some (NF lanes order c b):=by
  rw [AI] at hc hbb
  unfold BX Du NF
  rw [Lh lanes hc.1 (by omega),Lh lanes hbb.1 (by omega)]
  simp only [Option.bind_some,Nj hc.1 (by omega),Nj hbb.1 (by omega),KJ _ hc.1 (show c<8 by omega),KJ _ hbb.1 (show b<8 by omega)]
  cases Bo lanes c == Bo lanes b <;> simp
theorem Fh (l:List Int) (b:Int):0≤BF l b∧BF l b≤l.length:=by
  unfold BF
  split
  · have:=List.idxOf_le_length (a:=b) (l:=l)
    omega
  · omega
def Dd (y:Ak) (lanes order:List Int) (g:Int→Bool) (b:Int) (k:Nat):List Int:=(An k).filter fun c=>!g c && NF lanes order c b
theorem HY (y:Ak) (lanes order broken:List Int) (hl:lanes.length=y.buses.length) (hb:y.buses.length≤8) (g:Int→Bool) (b:Int) (hbb:b∈An y.buses.length):∀ (n i:Nat),y.buses.length<n+i→i≤y.buses.length →
    AB n (Du y lanes order broken) b (Dd y lanes order g b i) (i:Int) (Bh fun x=>g x || BL (Dd y lanes order g b i) x)=some (Dd y lanes order g b y.buses.length,Bh fun x=>g x || BL (Dd y lanes order g b y.buses.length) x)
  | 0,i,h,hi=>by omega
  | n+1,i,h,hi=>by
    rw [AB]
    rw [show(Du y lanes order broken).yard=y from rfl,Ca]
    by_cases hx:i<y.buses.length
    · have h0:(0:Int)≤(i:Int):=by omega
      have h8:(i:Int)<8:=by omega
      have hni:BL (Dd y lanes order g b i) (i:Int)=false:=by
        cases hq:BL (Dd y lanes order g b i) (i:Int) with
        | false=>rfl
        | true =>
          have hm:(i:Int)∈Dd y lanes order g b i:=by simpa [BL] using hq
          have:=(List.mem_filter.1 hm).1
          rw [AI] at this
          omega
      have ih:=HY y lanes order broken hl hb g b hbb n (i+1) (by omega) (by omega)
      have hs:Dd y lanes order g b (i+1)=if !g (i:Int) && NF lanes order (i:Int) b then Dd y lanes order g b i++[(i:Int)] else Dd y lanes order g b i:=by
        unfold Dd
        rw [CB,List.filter_append]
        cases hq:(!g (i:Int) && NF lanes order (i:Int) b) <;> simp [hq]
      simp only [hx,decide_true,cond_true,Nj h0 h8,KZ _ h0 h8,Option.bind_some,hni,Bool.or_false]
      rw [Eu i (by omega)]
      have hlen:(Dd y lanes order g b i).length≤i:=by
        unfold Dd
        exact Nat.le_trans (List.length_filter_le _ _) (by rw [BY]; exact Nat.le_refl _)
      have hbf:=PR n y lanes order broken hl hb (c:=(i:Int)) (b:=b) (by rw [AI]; omega) hbb
      cases hg:g (i:Int) with
      | true =>
        rw [hg] at hs
        simp only [Bool.not_true,Bool.false_and,Bool.false_eq_true,if_false] at hs
        rw [hs] at ih
        simpa using ih
      | false =>
        rw [hg] at hs
        simp only [Bool.not_false,Bool.true_and] at hs
        simp only [Bool.not_false,cond_true,hbf,Option.bind_some]
        cases hq:NF lanes order (i:Int) b with
        | false =>
          rw [hq] at hs
          simp only [Bool.false_eq_true,if_false] at hs
          rw [hs] at ih
          simpa using ih
        | true =>
          rw [hq] at hs
          simp only [if_true] at hs
          simp only [cond_true]
          rw [Ff _ _ (by simp; omega)]
          simp only [Option.bind_some,ID _ h0 h8]
          have e2:(Bh fun x=>if x=(i:Int) then true else(g x || BL (Dd y lanes order g b i) x))=Bh fun x=>g x || BL (Dd y lanes order g b (i+1)) x:=Ec fun x=>by
            rw [hs,J8]
            split <;> simp
          rw [e2,← hs]
          exact ih
    · have:i=y.buses.length:=by omega
      subst this
      simp
def EJ (y:Ak) (lanes order:List Int) (g:Int→Bool) (b:Int):List Int:=Eb (C3 (BF order)) (Dd y lanes order g b y.buses.length)
theorem PS {l l':List Int} (h:l.Perm l') (x:Int):BL l x=BL l' x:=by
  unfold BL
  rw [Bool.eq_iff_iff]
  simp [h.mem_iff]
def HZ (y:Ak) (lanes order:List Int) (g:Int→Bool) (b:Int):Int→Bool:=fun x=>if x=b then true else(g x || BL (EJ y lanes order g b) x)
def BD (y:Ak) (lanes order:List Int):(Int→Bool)→List Int→List (List Int)
  | _,[]=>[]
  | g,b::r=>EJ y lanes order g b::BD y lanes order (HZ y lanes order g b) r
theorem Gx (y:Ak) (lanes order:List Int):∀ (ts:List Int)(g:Int→Bool),(BD y lanes order g ts).length=ts.length
  | [],_=>rfl
  | b::r,g=>by rw [BD,List.length_cons,List.length_cons,Gx]
theorem NQ (n:Nat) (y:Ak) (lanes order broken:List Int) (hb:y.buses.length≤8) (ho:order.length≤1000) {c d:Int} (hc:c∈An y.buses.length) (hd:d∈An y.buses.length) :
    ∃ e,AF n c d (Du y lanes order broken)=some e∧decide (e<0)=C3 (BF order) c d:=by
  rw [AI] at hc hd
  unfold AF Du
  simp only [Nj hc.1 (show c<8 by omega),Nj hd.1 (show d<8 by omega),KJ _ hc.1 (show c<8 by omega),KJ _ hd.1 (show d<8 by omega),Option.bind_some]
  refine⟨_,rfl,?_⟩
  have h1:=Fh order c
  have h2:=Fh order d
  rw [JV (by omega) (by omega)]
  unfold C3
  by_cases h:BF order c<BF order d
  · rw [decide_eq_true h,decide_eq_true (by omega)]
  · rw [decide_eq_false h,decide_eq_false (by omega)]
theorem JA {y:Ak} {lanes order:List Int} {g:Int→Bool} {b:Int} {k:Nat} {c:Int}:c∈Dd y lanes order g b k↔c∈An k∧g c=false∧NF lanes order c b=true:=by
  unfold Dd
  rw [List.mem_filter]
  simp
theorem Iu {y:Ak} {lanes order:List Int} {g:Int→Bool} {b:Int} {c:Int}:c∈EJ y lanes order g b↔c∈An y.buses.length∧g c=false∧NF lanes order c b=true:=by
  unfold EJ
  rw [(DT _ _).mem_iff,JA]
theorem PT (y:Ak) (lanes order:List Int) (g:Int→Bool) (b:Int) (k:Nat):(Dd y lanes order g b k).length≤k:=by
  unfold Dd
  exact Nat.le_trans (List.length_filter_le _ _) (by rw [BY]; exact Nat.le_refl _)
theorem IG (n:Nat) (y:Ak) (lanes order broken:List Int) (hl:lanes.length=y.buses.length) (hb:y.buses.length≤8) (ho:order.length≤1000) (hn:30≤n)
    (step:(List (List Int))×Ap→Int→Option ((List (List Int))×Ap))
    (hstep:step=fun s x15=>((AB n (Du y lanes order broken) x15 ([]:List Int) 0 s.2).bind fun o_104 =>
      ((AA n o_104.1 (fun(y0:Int)(y1:Int)=>AF n y0 y1 (Du y lanes order broken))).bind fun x42 =>
      ((Jo 8 x15).bind fun x44=>((Ap.setI o_104.2 x15 true).bind fun u_233=>((Jc s.1 ([x42]:List (List Int))).bind fun x48=>some (x48,u_233)))))) ) :
    ∀ (ts:List Int)(out:List (List Int))(g:Int→Bool),(∀ b∈ts,b∈An y.buses.length)→out.length+ts.length≤1000→∃ u,ts.foldlM step (out,Bh g)=some (out++BD y lanes order g ts,u)
  | [],out,g,_,_=>⟨Bh g,by simp [BD]⟩
  | b::r,out,g,h,hle=>by
    have hbb:=h b (by simp)
    have hbr:=AI.1 hbb
    have e1:=HY y lanes order broken hl hb g b hbb n 0 (by omega) (by omega)
    rw [show((0:Nat):Int)=0 from rfl,show Dd y lanes order g b 0=[] from rfl,show(Bh fun x=>g x || BL [] x)=Bh g from Ec fun x=>by simp [BL]] at e1
    have hlen:=PT y lanes order g b y.buses.length
    have e2:=Kf n (fun y0 y1=>AF n y0 y1 (Du y lanes order broken)) (C3 (BF order)) (Dd y lanes order g b y.buses.length) (by omega)
      (fun c hc d hd=>NQ n y lanes order broken hb ho (JA.1 hc).1 (JA.1 hd).1) (by omega)
    have e3:(Bh fun x=>if x=b then true else(g x || BL (Dd y lanes order g b y.buses.length) x))=Bh (HZ y lanes order g b):=Ec fun x=>by
      unfold HZ EJ
      rw [PS (DT _ _)]
    have hs:step (out,Bh g) b=some (out++[EJ y lanes order g b],Bh (HZ y lanes order g b)):=by
      rw [hstep]
      simp only [e1,Option.bind_some,e2,Nj hbr.1 (show b<8 by omega),ID _ hbr.1 (show b<8 by omega),e3]
      rw [Ff _ _ (by simp at hle ⊢; omega)]
      rfl
    obtain⟨u,ih⟩:=IG n y lanes order broken hl hb ho hn step hstep r (out++[EJ y lanes order g b]) (HZ y lanes order g b) (fun z hz=>h z (by simp [hz])) (by simp at hle ⊢; omega)
    refine⟨u,?_⟩
    rw [List.foldlM_cons,hs]
    show(r.foldlM step (out++[EJ y lanes order g b],Bh (HZ y lanes order g b)))=_
    rw [ih,BD,List.append_assoc]
    rfl
theorem OT (n:Nat) (y:Ak) (lanes order broken:List Int) (hl:lanes.length=y.buses.length) (hb:y.buses.length≤8) (hv:y.buses.all Dc=true) (ho:order.length≤1000) (hn:30≤n) :
    BG n (Du y lanes order broken)=some (BD y lanes order (fun _=>false) (D8 y (BL broken))):=by
  unfold BG
  rw [show(Du y lanes order broken).yard=y from rfl,show(Du y lanes order broken).broken=Bh (BL broken) from rfl,Qy n y _ hb hv (by omega),Option.bind_some]
  have hlen:=Lf y (BL broken)
  obtain⟨u,h1⟩:=IG n y lanes order broken hl hb ho hn _ rfl (D8 y (BL broken)) [] (fun _=>false) (fun b hbm=>(DK.1 hbm).1) (by simp; omega)
  have h2:=PQ n _ (([]:List (List Int)),Bh fun _=>false) (D8 y (BL broken)) (by omega) (by omega) |>.trans h1
  rw [show(Ap.mk false false false false false false false false)=Bh (fun _=>false) from rfl]
  rw [h2]
  rfl
end Go.Proofs.Ythcbemnflgjadaa
namespace Go.Proofs.Ythcbemnflgjadaa
open Go Go.RowKit
theorem Li (y:Ak):∀ (l pre:List Int),pre.Nodup→GZ y pre l=true→(pre++l).Nodup∧∀ b∈l,b∈An y.buses.length
  | [],pre,hp,_=>by simpa using hp
  | b::r,pre,hp,h=>by
    unfold GZ NJ at h
    simp only [Bool.and_eq_true,Bool.not_eq_true',Bool.or_eq_false_iff] at h
    obtain⟨⟨h1,h2,_⟩,h4⟩:=h
    have hb:b ∉ pre:=by simpa using h2
    have hp':(pre++[b]).Nodup:=by
      rw [List.nodup_append]
      refine⟨hp,by simp,fun a ha c hc=>?_⟩
      simp at hc
      rintro rfl
      exact hb (hc▸ha)
    obtain⟨q1,q2⟩:=Li y r (pre++[b]) hp' h4
    refine⟨by simpa using q1,fun c hc=>?_⟩
    rcases List.mem_cons.1 hc with rfl | hc
    · exact C4.1 h1
    · exact q2 c hc
theorem OU:∀ (l m:List Int),l.Nodup→(∀ x∈l,x∈m)→m.length≤l.length→∀ x∈m,x∈l
  | [],m,_,_,hl,x,hx=>by
    have:m=[]:=List.eq_nil_of_length_eq_zero (by simpa using hl)
    rw [this] at hx
    simp at hx
  | a::l,m,hn,hs,hl,x,hx=>by
    rw [List.nodup_cons] at hn
    by_cases hxa:x=a
    · simp [hxa]
    · have ha:a∈m:=hs a (by simp)
      refine List.mem_cons_of_mem _ (OU l (m.erase a) hn.2 (fun z hz=>?_) ?_ x ((List.mem_erase_of_ne hxa).2 hx))
      · have hza:z≠a:=fun h=>hn.1 (h▸hz)
        exact(List.mem_erase_of_ne hza).2 (hs z (by simp [hz]))
      · rw [List.length_erase_of_mem ha]
        simp at hl
        omega
structure KN (y:Ak) (order:List Int):Prop where
  nd:order.Nodup
  len:order.length=y.buses.length
  mem:∀ b,b∈order↔b∈An y.buses.length
theorem Lj {y:Ak} {order:List Int} (h:GH y order=true):KN y order:=by
  unfold GH at h
  simp only [Bool.and_eq_true,decide_eq_true_eq] at h
  obtain⟨h1,h2⟩:=Li y order [] List.nodup_nil h.2
  rw [List.nil_append] at h1
  exact⟨h1,h.1,fun b=>⟨h2 b,OU order (An y.buses.length) h1 h2 (by rw [BY,h.1]; exact Nat.le_refl _) b⟩⟩
theorem Gy {a:List Int} {b:Int} {r:List Int} (hn:(a++b::r).Nodup):BF (a++b::r) b=a.length∧(∀ c∈a,BF (a++b::r) c<a.length)∧(∀ c∈r,(a.length:Int)<BF (a++b::r) c):=by
  rw [List.nodup_append] at hn
  obtain⟨h1,h2,h3⟩:=hn
  rw [List.nodup_cons] at h2
  have hba:b ∉ a:=fun h=>h3 b h b (by simp) rfl
  refine⟨?_,fun c hc=>?_,fun c hc=>?_⟩
  · unfold BF
    simp [List.idxOf_append,hba]
  · unfold BF
    have hl:=List.idxOf_lt_length_iff.2 hc
    simp [List.idxOf_append,hc]
    omega
  · have hca:c ∉ a:=fun h=>h3 c h c (by simp [hc]) rfl
    have hcb:c≠b:=fun h=>h2.1 (h▸hc)
    unfold BF
    have hbc:(b == c)=false:=by
      cases hq:(b == c) with
      | false=>rfl
      | true=>rw [beq_iff_eq] at hq; exact absurd hq.symm hcb
    simp [List.idxOf_append,hca,hc,List.idxOf_cons,hbc]
    omega
theorem II:∀ (r a:List Int),(a++r).Nodup→r.Pairwise fun c d=>BF (a++r) c≤BF (a++r) d
  | [],_,_=>List.Pairwise.nil
  | b::r,a,hn=>by
    obtain⟨h1,h2,h3⟩:=Gy hn
    rw [List.pairwise_cons]
    refine⟨fun c hc=>by rw [h1]; exact Int.le_of_lt (h3 c hc),?_⟩
    have:=II r (a++[b]) (by simpa using hn)
    simpa using this
theorem Lk {l:List Int} {a b:Int} (ha:a∈l) (hb:b∈l) (h:BF l a=BF l b):a=b:=by
  unfold BF at h
  simp only [List.contains_iff_mem,ha,hb,if_true] at h
  have h':l.idxOf a=l.idxOf b:=by omega
  have q1:=List.idxOf_lt_length_iff.2 ha
  have q2:=List.idxOf_lt_length_iff.2 hb
  have e1:=List.getElem_idxOf q1
  have e2:=List.getElem_idxOf q2
  rw [← e1,← e2]
  congr 1
end Go.Proofs.Ythcbemnflgjadaa
namespace Go.Proofs.Ythcbemnflgjadaa
open Go Go.RowKit
theorem IJ (m:List (List Int)) (hm:m.length≤1000) (hs:m.flatten.length≤1000000):∀ (n i:Nat),m.length<n+i→i≤m.length →
    AK n m (i:Int) ((m.take i).flatten.length:Int)=some (m.flatten.length:Int)
  | 0,i,h,hi=>by omega
  | n+1,i,h,hi=>by
    rw [AK,Ca]
    by_cases hx:i<m.length
    · have e1:(m.take (i+1)).flatten.length=(m.take i).flatten.length+m[i].length:=by
        rw [List.take_succ_eq_append_getElem hx,List.flatten_append,List.length_append]
        simp
      have hle:(m.take (i+1)).flatten.length≤m.flatten.length:=by
        have:=List.take_append_drop (i+1) m
        have h2:=congrArg List.flatten this
        rw [List.flatten_append] at h2
        rw [← h2,List.length_append]
        omega
      simp only [hx,decide_true,cond_true,D3 _ _ hx,Option.bind_some]
      rw [Eu i (by omega),JV (by omega) (by omega),show((m.take i).flatten.length:Int)+(m[i].length:Int)=((m.take (i+1)).flatten.length:Int) by omega]
      rw [show decide (((m.take (i+1)).flatten.length:Int)<0)=false from decide_eq_false (by omega),cond_false]
      exact IJ m hm hs n (i+1) (by omega) (by omega)
    · have:i=m.length:=by omega
      subst this
      simp
theorem IL (m:List (List Int)) (hm:m.length≤1000) (hs:m.flatten.length≤1000000):∀ (n i:Nat),m.length<n+i→i≤m.length →
    AL n m (m.take i).flatten (i:Int)=some m.flatten
  | 0,i,h,hi=>by omega
  | n+1,i,h,hi=>by
    rw [AL,Ca]
    by_cases hx:i<m.length
    · have e1:(m.take (i+1)).flatten=(m.take i).flatten++m[i]:=by
        rw [List.take_succ_eq_append_getElem hx,List.flatten_append]
        simp
      have hle:(m.take (i+1)).flatten.length≤m.flatten.length:=by
        have:=List.take_append_drop (i+1) m
        have h2:=congrArg List.flatten this
        rw [List.flatten_append] at h2
        rw [← h2,List.length_append]
        omega
      simp only [hx,decide_true,cond_true,D3 _ _ hx,Option.bind_some]
      rw [Ff _ _ (by rw [e1,List.length_append] at hle; omega),Option.bind_some,Eu i (by omega),← e1]
      exact IL m hm hs n (i+1) (by omega) (by omega)
    · have:i=m.length:=by omega
      subst this
      simp
theorem PU (n:Nat) (m:List (List Int)) (hm:m.length≤1000) (hs:m.flatten.length≤1000000) (hn:m.length<n):Bk n m=some m.flatten:=by
  unfold Bk
  have e1:=IJ m hm hs n 0 (by omega) (by omega)
  have e2:=IL m hm hs n 0 (by omega) (by omega)
  simp only [List.take_zero,List.flatten_nil,List.length_nil] at e1 e2
  rw [show((0:Nat):Int)=0 from rfl] at e1 e2
  rw [e1,Option.bind_some]
  unfold PE
  rw [if_pos ⟨by omega,by omega⟩,Option.bind_some,e2]
  rfl
theorem Ia (y:Ak) (lanes order:List Int):∀ (ts:List Int)(g:Int→Bool),(BD y lanes order g ts).flatten.Nodup∧∀ c∈(BD y lanes order g ts).flatten,g c=false∧c∈An y.buses.length
  | [],g=>by simp [BD]
  | b::r,g=>by
    obtain⟨h1,h2⟩:=Ia y lanes order r (HZ y lanes order g b)
    rw [BD,List.flatten_cons]
    have hg:∀ c∈(BD y lanes order (HZ y lanes order g b) r).flatten,c ∉ EJ y lanes order g b∧g c=false∧c∈An y.buses.length:=fun c hc=>by
      obtain⟨q1,q2⟩:=h2 c hc
      unfold HZ at q1
      split at q1
      · cases q1
      · simp only [Bool.or_eq_false_iff] at q1
        exact⟨by simpa [BL] using q1.2,q1.1,q2⟩
    refine⟨?_,fun c hc=>?_⟩
    · rw [List.nodup_append]
      refine⟨?_,h1,fun c hc d hd=>?_⟩
      · unfold EJ
        rw [(DT _ _).nodup_iff]
        exact List.Pairwise.filter _ (Cb _)
      · rintro rfl
        exact(hg c hd).1 hc
    · rcases List.mem_append.1 hc with hc | hc
      · have:=Iu.1 hc
        exact⟨this.2.1,this.1⟩
      · exact(hg c hc).2
def MA (y:Ak) (lanes order broken:List Int):List (List Int):=BD y lanes order (fun _=>false) (D8 y (BL broken))
def AP (y:Ak) (lanes order broken:List Int):List Int:=(An y.buses.length).filter (BL (MA y lanes order broken).flatten)
theorem FJ:∀ n,(An n).Pairwise (·≤·)
  | 0=>by simp [An]
  | n+1=>by
    rw [CB,List.pairwise_append]
    refine⟨FJ n,by simp,fun a ha b hb=>?_⟩
    rw [AI] at ha
    simp at hb
    omega
theorem Ll {y:Ak} {m:List Int} (hn:m.Nodup) (hm:∀ c∈m,c∈An y.buses.length):m.length≤y.buses.length:=by
  rcases Nat.lt_or_ge y.buses.length m.length with h | h
  · exfalso
    have h2:=OU (m.take y.buses.length) (An y.buses.length) (List.Pairwise.sublist (List.take_sublist _ _) hn) (fun x hx=>hm x (List.mem_of_mem_take hx)) (by rw [BY,List.length_take]; omega)
    have h3:=hm _ (List.getElem_mem h)
    have h4:=h2 _ h3
    have h5:(m.take y.buses.length++m.drop y.buses.length).Nodup:=by rw [List.take_append_drop]; exact hn
    rw [List.nodup_append] at h5
    exact h5.2.2 _ h4 m[y.buses.length] (by rw [Cr h]; exact List.mem_cons_self) rfl
  · exact h
theorem NR {y:Ak} {m:List Int} (hn:m.Nodup) (hm:∀ c∈m,c∈An y.buses.length) (hb:y.buses.length≤1000):LO m=some ((An y.buses.length).filter (BL m)):=by
  refine NH ?_ ?_ ?_
  · refine(List.perm_ext_iff_of_nodup hn (List.Pairwise.filter _ (Cb _))).2 fun c=>?_
    rw [List.mem_filter]
    constructor
    · exact fun hc=>⟨hm c hc,by simpa [BL] using hc⟩
    · exact fun hc=>by simpa [BL] using hc.2
  · exact List.Pairwise.filter _ (FJ _)
  · have:=Ll hn hm
    omega
theorem MB (n:Nat) (y:Ak) (lanes order broken:List Int) (hr:y.room.length≤100) (hb:y.buses.length≤100) (h1:lanes.length≤100) (h2:order.length≤100) (h3:broken.length≤100) (hn:200≤n) :
    Ct n y lanes order broken=some (if BV y lanes order broken=0 then AP y lanes order broken else [],BV y lanes order broken):=by
  unfold Ct
  obtain⟨x,e1,e2⟩:=Q0 n y lanes order broken hr hb h1 h2 h3 hn
  rw [e1,Option.bind_some]
  by_cases ha:BV y lanes order broken=0
  · have hf:BK y=0:=by
      unfold BV at ha
      split at ha
      · assumption
      · exact ha
    obtain⟨v1,v0,v2,v3,v4,v5,v6⟩:=Ed hf
    have hok:F7 y lanes order broken=true:=by
      unfold BV at ha
      rw [if_pos hf] at ha
      split at ha
      · assumption
      · omega
    unfold F7 at hok
    simp only [Bool.and_eq_true] at hok
    have hll:lanes.length=y.buses.length:=by have:=hok.1; unfold Fg at this; simp at this; exact this.1
    rw [e2 ha,ha,bne_self_eq_false,cond_false,OT n y lanes order broken hll v2 v5 (by omega) (by omega),Option.bind_some]
    obtain⟨s1,s2⟩:=Ia y lanes order (D8 y (BL broken)) fun _=>false
    have hfl:=Ll s1 (fun c hc=>(s2 c hc).2)
    have htl:=Lf y (BL broken)
    rw [PU n _ (by rw [Gx]; omega) (by omega) (by rw [Gx]; omega),Option.bind_some,NR s1 (fun c hc=>(s2 c hc).2) (by omega)]
    rfl
  · have hne:(BV y lanes order broken != 0)=true:=by simp [ha]
    rw [hne,cond_true,if_neg ha]
theorem Gz {y:Ak} {lanes order broken:List Int} (ha:BV y lanes order broken=0):BK y=0∧Fg y lanes=true∧lanes.length=y.buses.length∧KN y order∧GJ y broken=true∧GH y order=true:=by
  have hf:BK y=0:=by
    unfold BV at ha
    split at ha
    · assumption
    · exact ha
  have hok:F7 y lanes order broken=true:=by
    unfold BV at ha
    rw [if_pos hf] at ha
    split at ha
    · assumption
    · omega
  unfold F7 at hok
  simp only [Bool.and_eq_true] at hok
  exact⟨hf,hok.1,by have:=hok.1; unfold Fg at this; simp at this; exact this.1,Lj hok.2.1,hok.2.2,hok.2.1⟩
theorem IM (y:Ak) (lanes order broken:List Int):(AP y lanes order broken).length≤y.buses.length:=by
  unfold AP
  exact Nat.le_trans (List.length_filter_le _ _) (by rw [BY]; exact Nat.le_refl _)
end Go.Proofs.Ythcbemnflgjadaa
namespace Go.Proofs.Ythcbemnflgjadaa
open Go Go.RowKit
def Q1 (words:List (IK .u16)):Prop:=∀ x∈words,0≤x.n∧x.n≤65535
def wd (words:List (IK .u16)) (k:Int):Int:=if words.length=0 then 0 else(words.getD (Int.tmod k (words.length:Int)).toNat ⟨0⟩).n
theorem De {k m:Int} (hk:0≤k) (hm:0<m):0≤Int.tmod k m∧Int.tmod k m<m:=by
  rw [Int.tmod_eq_emod_of_nonneg hk]
  exact⟨Int.emod_nonneg _ (by omega),Int.emod_lt_of_pos _ hm⟩
theorem Pu {b:Int} (h:b≠0):nz b=some ():=by unfold nz; rw [if_neg h]
theorem KO (n:Nat) (words:List (IK .u16)) (hw:Q1 words) (k:Int) (hk:0≤k):EA n words k=some (wd words k):=by
  unfold EA wd
  by_cases h:words.length=0
  · simp [h]
  · have hm:(0:Int)<(words.length:Int):=by omega
    obtain⟨h1,h2⟩:=De hk hm
    have e0:((words.length:Int) == 0)=false:=by
      cases hq:((words.length:Int) == 0) with
      | false=>rfl
      | true=>rw [beq_iff_eq] at hq; omega
    rw [e0,cond_false,Pu (by omega),Option.bind_some,if_neg h]
    obtain⟨j,hj⟩:=Int.eq_ofNat_of_zero_le h1
    rw [hj,D3 _ _ (by omega),Option.bind_some]
    have hjl:j<words.length:=by omega
    have:=hw _ (List.getElem_mem hjl)
    rw [JV (by omega) (by omega)]
    simp [List.getD_eq_getElem?_getD,List.getElem?_eq_getElem hjl]
theorem FT {words:List (IK .u16)} (hw:Q1 words) (k:Int):0≤wd words k∧wd words k≤65535:=by
  unfold wd
  split
  · omega
  · rw [List.getD_eq_getElem?_getD]
    cases hq:words[(Int.tmod k (words.length:Int)).toNat]? with
    | none=>simp
    | some x=>exact hw x (List.mem_of_getElem? hq)
def IN (y:Ak) (words:List (IK .u16)) (b:Int):Int :=
  if Int.tmod (wd words b) 3=0 then(A6 y b).lo else if Int.tmod (wd words b) 3=1 then(A6 y b).hi
  else(A6 y b).lo+Int.tmod (Int.tdiv (wd words b) 3) ((A6 y b).hi-(A6 y b).lo+1)
def keyOf (y:Ak) (words:List (IK .u16)) (b:Int):Int:=2*IN y words b+Int.tmod (wd words (2*b+1)) 2
theorem Hc {y:Ak} (hv:y.buses.all Dc=true) {words:List (IK .u16)} (hw:Q1 words) {b:Int} (hb:b∈An y.buses.length):(A6 y b).lo≤IN y words b∧IN y words b≤(A6 y b).hi:=by
  have h1:=GY hv (C4.2 hb)
  have h2:=FT hw b
  unfold IN
  split
  · omega
  · split
    · omega
    · have h3:0≤Int.tdiv (wd words b) 3:=Int.tdiv_nonneg h2.1 (by omega)
      have:=De h3 (show 0<(A6 y b).hi-(A6 y b).lo+1 by omega)
      omega
def DL (y:Ak) (words:List (IK .u16)):List Int:=Eb (C3 (keyOf y words)) (An y.buses.length)
theorem Lm (t:Int→Int) (x:Int):∀ (A B:List Int)(n:Nat),A.length<n→A.length≤1000000 →
    CD n (A.reverse++x::B) ((A.reverse++x::B).map t) (A.length:Int)=some ((Hb (C3 t) x A).reverse++B,((Hb (C3 t) x A).reverse++B).map t)
  | _,_,0,h,_=>by omega
  | [],B,n+1,_,_=>by
    rw [CD]
    simp [Hb]
  | y::A,B,n+1,h,hl=>by
    have hl':A.length+1≤1000000:=by simpa using hl
    have e0:(y::A).reverse++x::B=A.reverse++y::x::B:=by simp
    have e1:(y::A).reverse++x::B=(A.reverse++[y])++x::B:=by simp
    have m0:((y::A).reverse++x::B).map t=A.reverse.map t++t y::t x::B.map t:=by simp
    have m1:((y::A).reverse++x::B).map t=(A.reverse.map t++[t y])++t x::B.map t:=by simp
    have hk:(A.reverse++[y]).length=A.length+1:=by simp
    have hkm:(A.reverse.map t++[t y]).length=A.length+1:=by simp
    have i1:By ((y::A).reverse++x::B) ((A.length+1:Nat):Int)=some x:=by rw [e1,EW _ _ _ hk.symm]
    have i2:By ((y::A).reverse++x::B) (A.length:Int)=some y:=by rw [e0,EW _ _ _ (by simp)]
    have u1:upd ((y::A).reverse++x::B) ((A.length+1:Nat):Int) y=some (A.reverse++y::y::B):=by rw [e1,HJ _ _ _ _ hk.symm]; simp
    have i3:By (A.reverse++y::y::B) (A.length:Int)=some y:=EW _ _ _ (by simp)
    have u2:upd (A.reverse++y::y::B) (A.length:Int) x=some (A.reverse++x::y::B):=HJ _ _ _ _ (by simp)
    have j1:By (((y::A).reverse++x::B).map t) ((A.length+1:Nat):Int)=some (t x):=by rw [m1,EW _ _ _ hkm.symm]
    have j2:By (((y::A).reverse++x::B).map t) (A.length:Int)=some (t y):=by rw [m0,EW _ _ _ (by simp)]
    have v1:upd (((y::A).reverse++x::B).map t) ((A.length+1:Nat):Int) (t y)=some (A.reverse.map t++t y::t y::B.map t):=by rw [m1,HJ _ _ _ _ hkm.symm]; simp
    have j3:By (A.reverse.map t++t y::t y::B.map t) (A.length:Int)=some (t y):=EW _ _ _ (by simp)
    have v2:upd (A.reverse.map t++t y::t y::B.map t) (A.length:Int) (t x)=some (A.reverse.map t++t x::t y::B.map t):=HJ _ _ _ _ (by simp)
    have w1:IntKind.i64.wrap (((A.length+1:Nat):Int)-1)=(A.length:Int):=by rw [JV (by omega) (by omega)]; omega
    have g1:decide (((A.length+1:Nat):Int)>0)=true:=decide_eq_true (by omega)
    rw [CD,List.length_cons]
    simp only [g1,cond_true,i1,i2,j1,j2,w1,Option.bind_some]
    rw [show decide (t x<t y)=C3 t x y from rfl]
    unfold Hb
    cases hx:C3 t x y with
    | false=>simp
    | true =>
      simp only [cond_true,u1,i3,u2,v1,j3,v2,Option.bind_some,if_true]
      have ih:=Lm t x A (y::B) n (by simp at h; omega) (by omega)
      rw [show(A.reverse++x::y::B).map t=A.reverse.map t++t x::t y::B.map t by simp] at ih
      rw [ih]
      simp
theorem Ln {y:Ak} (hb:y.buses.length≤100) (hv:y.buses.all Dc=true) {words:List (IK .u16)} (hw:Q1 words):∀ (n i:Nat),300≤n+i→i≤y.buses.length →
    Di n y words (Eb (C3 (keyOf y words)) (An i)) ((Eb (C3 (keyOf y words)) (An i)).map (keyOf y words)) (i:Int)=some (DL y words,(DL y words).map (keyOf y words))
  | 0,i,h,hi=>by omega
  | n+1,i,h,hi=>by
    rw [Di,Ca]
    by_cases hx:i<y.buses.length
    · have hm:(i:Int)∈An y.buses.length:=by rw [AI]; omega
      have h1:=GY hv (C4.2 hm)
      have h2:=FT hw (i:Int)
      have h3:=FT hw (2*(i:Int)+1)
      have hmr:=Hc hv hw hm
      have hbus:By y.buses (i:Int)=some (A6 y (i:Int)):=IC y (C4.2 hm)
      have hlen:(Eb (C3 (keyOf y words)) (An i)).length=i:=by rw [DU,BY]
      have w0:IntKind.i64.wrap ((A6 y (i:Int)).hi-(A6 y (i:Int)).lo)=(A6 y (i:Int)).hi-(A6 y (i:Int)).lo:=JV (by omega) (by omega)
      have w1:IntKind.i64.wrap ((A6 y (i:Int)).hi-(A6 y (i:Int)).lo+1)=(A6 y (i:Int)).hi-(A6 y (i:Int)).lo+1:=JV (by omega) (by omega)
      have hd0:0≤Int.tdiv (wd words (i:Int)) 3:=Int.tdiv_nonneg h2.1 (by omega)
      have hd1:Int.tdiv (wd words (i:Int)) 3≤65535:=by
        rw [Int.tdiv_eq_ediv_of_nonneg h2.1]; omega
      have w2:IntKind.i64.wrap (Int.tdiv (wd words (i:Int)) 3)=Int.tdiv (wd words (i:Int)) 3:=JV (by omega) (by omega)
      have hsel:((bif Int.tmod (wd words (i:Int)) 3 == 0 then some (A6 y (i:Int)).lo else(bif Int.tmod (wd words (i:Int)) 3 == 1 then some (A6 y (i:Int)).hi else
          some (IntKind.i64.wrap ((A6 y (i:Int)).lo+Int.tmod (Int.tdiv (wd words (i:Int)) 3) ((A6 y (i:Int)).hi-(A6 y (i:Int)).lo+1))))):Option Int)=some (IN y words (i:Int)):=by
        unfold IN
        by_cases c0:Int.tmod (wd words (i:Int)) 3=0
        · simp [c0]
        · by_cases c1:Int.tmod (wd words (i:Int)) 3=1
          · simp [c0,c1]
          · have:=De hd0 (show 0<(A6 y (i:Int)).hi-(A6 y (i:Int)).lo+1 by omega)
            rw [if_neg c0,if_neg c1]
            have b0:(Int.tmod (wd words (i:Int)) 3 == 0)=false:=by simp [c0]
            have b1:(Int.tmod (wd words (i:Int)) 3 == 1)=false:=by simp [c1]
            rw [b0,b1,cond_false,cond_false,JV (by omega) (by omega)]
      have w3:IntKind.i64.wrap (2*(i:Int))=2*(i:Int):=JV (by omega) (by omega)
      have w4:IntKind.i64.wrap (2*(i:Int)+1)=2*(i:Int)+1:=JV (by omega) (by omega)
      have w5:IntKind.i64.wrap (2*IN y words (i:Int))=2*IN y words (i:Int):=JV (by omega) (by omega)
      have ht:=De h3.1 (show(0:Int)<2 by omega)
      have w6:IntKind.i64.wrap (2*IN y words (i:Int)+Int.tmod (wd words (2*(i:Int)+1)) 2)=keyOf y words (i:Int):=JV (by omega) (by omega)
      simp only [hx,decide_true,cond_true,hbus,KO n words hw (i:Int) (by omega),Option.bind_some,w0,w1,w2,Pu (show(A6 y (i:Int)).hi-(A6 y (i:Int)).lo+1≠0 by omega),hsel,w3,w4,KO n words hw (2*(i:Int)+1) (by omega),w5,w6]
      rw [Ff _ _ (by simp [hlen]; omega)]
      simp only [Option.bind_some]
      rw [Ff _ _ (by simp [hlen]; omega)]
      simp only [Option.bind_some]
      have h4:=Lm (keyOf y words) (i:Int) (Eb (C3 (keyOf y words)) (An i)).reverse [] n (by rw [List.length_reverse,hlen]; omega) (by rw [List.length_reverse,hlen]; omega)
      rw [List.reverse_reverse,List.length_reverse,hlen,List.append_nil,List.map_append] at h4
      rw [show(Eb (C3 (keyOf y words)) (An i)).map (keyOf y words)++[keyOf y words (i:Int)]=(Eb (C3 (keyOf y words)) (An i)).map (keyOf y words)++[(i:Int)].map (keyOf y words) from rfl,h4,Option.bind_some,Eu i (by omega)]
      have e1:(Hb (C3 (keyOf y words)) (i:Int) (Eb (C3 (keyOf y words)) (An i)).reverse).reverse=Eb (C3 (keyOf y words)) (An (i+1)):=by
        rw [CB,M8]; rfl
      rw [e1]
      exact Ln hb hv hw n (i+1) (by omega) (by omega)
    · have:i=y.buses.length:=by omega
      subst this
      simp [DL]
theorem Rn (n:Nat) {y:Ak} (hb:y.buses.length≤100) (hv:y.buses.all Dc=true) {words:List (IK .u16)} (hw:Q1 words) (hn:300≤n):Hg n y words=some (DL y words):=by
  unfold Hg
  have e1:=Ln hb hv hw n 0 (by omega) (by omega)
  rw [show((0:Nat):Int)=0 from rfl,show Eb (C3 (keyOf y words)) (An 0)=[] from rfl,List.map_nil] at e1
  rw [e1]
  rfl
theorem Lo (y:Ak):∀ (l pre:List Int),(pre++l).Nodup→(∀ b∈l,b∈An y.buses.length)→(pre++l).Pairwise (fun a b=>(A6 y a).lo≤(A6 y b).hi)→GZ y pre l=true
  | [],pre,_,_,_=>rfl
  | b::r,pre,hn,hm,hp=>by
    unfold GZ NJ
    have h1:Fd b 0 ((y.buses.length:Int)-1)=true:=C4.2 (hm b (by simp))
    have hn2:=hn
    rw [List.nodup_append] at hn2
    have h2:pre.contains b=false:=by
      have:b ∉ pre:=fun h=>hn2.2.2 b h b (by simp) rfl
      simpa using this
    have hp2:=hp
    rw [List.pairwise_append] at hp2
    have h3:(pre.any fun k=>decide ((A6 y b).hi<(A6 y k).lo))=false:=by
      rw [List.any_eq_false]
      intro k hk
      have:=hp2.2.2 k hk b (by simp)
      simp
      omega
    rw [h1,h2,h3]
    simp only [Bool.or_self,Bool.not_false,Bool.and_self,Bool.true_and]
    exact Lo y r (pre++[b]) (by simpa using hn) (fun c hc=>hm c (by simp [hc])) (by simpa using hp)
theorem PV {y:Ak} (hv:y.buses.all Dc=true) {words:List (IK .u16)} (hw:Q1 words):GH y (DL y words)=true:=by
  unfold GH
  have hp:=DT (C3 (keyOf y words)) (An y.buses.length)
  have hmem:∀ b,b∈DL y words↔b∈An y.buses.length:=fun b=>hp.mem_iff
  have hlen:(DL y words).length=y.buses.length:=by unfold DL; rw [DU,BY]
  rw [decide_eq_true hlen,Bool.true_and]
  refine Lo y _ [] ?_ (fun b hb=>(hmem b).1 hb) ?_
  · rw [List.nil_append]
    exact hp.nodup_iff.2 (Cb _)
  · rw [List.nil_append]
    refine List.Pairwise.imp_of_mem (fun {a b} ha hb h=>?_) (Ld (keyOf y words) (An y.buses.length))
    have h1:=Hc hv hw ((hmem a).1 ha)
    have h2:=Hc hv hw ((hmem b).1 hb)
    have h3:=De (FT hw (2*a+1)).1 (show(0:Int)<2 by omega)
    have h4:=De (FT hw (2*b+1)).1 (show(0:Int)<2 by omega)
    unfold keyOf at h
    omega
theorem Iv {y:Ak} (hb:y.buses.length≤100) {words:List (IK .u16)} (hw:Q1 words):∀ (n i:Nat)(acc:List Int),y.buses.length<n+i→i≤y.buses.length→acc.Pairwise (· < ·)→(∀ b∈acc,0≤b∧b<i)→acc.length≤i→((acc.length:Int)≤y.broken) →
    ∃ l,CE n y words acc (i:Int)=some l∧l.Pairwise (· < ·)∧(∀ b∈l,b∈An y.buses.length)∧(l.length:Int)≤y.broken
  | 0,i,acc,h,hi,_,_,_,_=>by omega
  | n+1,i,acc,h,hi,h1,h2,h3,h4=>by
    rw [CE,Ca]
    by_cases hx:i<y.buses.length
    · have w1:IntKind.i64.wrap (3*(i:Int))=3*(i:Int):=JV (by omega) (by omega)
      have w2:IntKind.i64.wrap (3*(i:Int)+2)=3*(i:Int)+2:=JV (by omega) (by omega)
      simp only [hx,decide_true,cond_true]
      rw [w1,w2,KO n words hw _ (by omega),Eu i (by omega)]
      have skip:=Iv hb hw n (i+1) acc (by omega) (by omega) h1 (fun b hb=>by have:=h2 b hb; omega) (by omega) h4
      by_cases hq:(acc.length:Int)<y.broken
      · rw [decide_eq_true hq]
        simp only [cond_true,Option.bind_some]
        cases hz:(Int.tmod (wd words (3*(i:Int)+2)) 4 == 0) with
        | false=>simpa using skip
        | true =>
          simp only [cond_true]
          rw [Ff _ _ (by simp; omega),Option.bind_some]
          refine Iv hb hw n (i+1) (acc++[(i:Int)]) (by omega) (by omega) ?_ (fun b hb=>?_) (by simp; omega) (by simp; omega)
          · rw [List.pairwise_append]
            refine⟨h1,by simp,fun a ha b hb=>?_⟩
            simp at hb
            have:=h2 a ha
            omega
          · rcases List.mem_append.1 hb with hb | hb
            · have:=h2 b hb; omega
            · simp at hb; omega
      · rw [decide_eq_false hq]
        simpa using skip
    · have:i=y.buses.length:=by omega
      subst this
      exact⟨acc,by simp,h1,fun b hb=>by rw [AI]; exact h2 b hb,h4⟩
theorem Lp (y:Ak):∀ (l:List Int)(last:Int),(last::l).Pairwise (· < ·)→(∀ b∈l,b∈An y.buses.length)→IE y last l=true
  | [],_,_,_=>rfl
  | b::r,last,hp,hm=>by
    unfold IE
    rw [List.pairwise_cons] at hp
    rw [C4.2 (hm b (by simp)),decide_eq_true (hp.1 b (by simp)),Bool.true_and,Bool.true_and]
    exact Lp y r b hp.2 fun c hc=>hm c (by simp [hc])
theorem Ro (n:Nat) {y:Ak} (hb:y.buses.length≤100) (hr:0≤y.broken) {words:List (IK .u16)} (hw:Q1 words) (hn:y.buses.length<n):∃ l,Hh n y words=some l∧GJ y l=true∧l.length≤y.buses.length:=by
  unfold Hh
  obtain⟨l,e1,e2,e3,e4⟩:=Iv hb hw n 0 [] (by omega) (by omega) List.Pairwise.nil (by simp) (by simp) (by simpa using hr)
  rw [show((0:Nat):Int)=0 from rfl] at e1
  refine⟨l,by rw [e1]; rfl,?_,Ll (e2.imp fun h=>Int.ne_of_lt h) e3⟩
  unfold GJ
  rw [decide_eq_true e4,Bool.and_true]
  refine Lp y l (-1) ?_ e3
  rw [List.pairwise_cons]
  exact⟨fun b hb=>by have:=AI.1 (e3 b hb); omega,e2⟩
theorem IP (y:Ak) (x14 here:List Int) (hr:0<y.room.length) (hm:y.room.length≤1000) (hl:here.length=y.room.length):∀ (n k:Nat)(l:Int),y.room.length<n+k→k≤y.room.length→0≤l→l<(y.room.length:Int) →
    ∃ o,Cx n y x14 here (k:Int) l=some o∧0≤o∧o<(y.room.length:Int)
  | 0,k,l,h,hk,_,_=>by omega
  | n+1,k,l,h,hk,h0,h1=>by
    rw [Cx,Ca]
    by_cases hx:k<y.room.length
    · obtain⟨j,rfl⟩:=Int.eq_ofNat_of_zero_le h0
      simp only [hx,decide_true,cond_true,D3 here j (by omega),D3 y.room j (by omega),Option.bind_some]
      cases hq:decide (here[j]≥y.room[j]) with
      | false=>exact⟨_,rfl,h0,h1⟩
      | true =>
        simp only [cond_true,Pu (show((y.room.length:Nat):Int)≠0 by omega),Option.bind_some]
        rw [Eu k (by omega),Eu j (by omega)]
        have:=De (show(0:Int)≤((j+1:Nat):Int) by omega) (show(0:Int)<(y.room.length:Int) by omega)
        exact IP y x14 here hr hm hl n (k+1) _ (by omega) (by omega) this.1 this.2
    · have:k=y.room.length:=by omega
      subst this
      exact⟨l,by simp,h0,h1⟩
theorem Ki (room:List Int):∀ (l pre:List Int)(x:Int),D9 room pre (l++[x])=(D9 room pre l && (Fd x 0 ((room.length:Int)-1) && decide (((pre++l).count x:Int)<Cv room x)))
  | [],pre,x=>by simp [D9]
  | b::r,pre,x=>by
    rw [List.cons_append,D9,D9,Ki room r (pre++[b]) x]
    simp [Bool.and_assoc]
theorem IQ {y:Ak} (hr0:0<y.room.length) (hr:(y.room.all fun r=>Fd r 0 8)=true) (hm:y.room.length≤100) (hb:y.buses.length≤100) {words:List (IK .u16)} (hw:Q1 words) (x14:List Int):∀ (n i:Nat)(acc:List Int),400≤n+i→i≤y.buses.length→acc.length=i→D9 y.room [] acc=true →
    ∃ r,Cy n y words x14 (BU y.room.length fun k=>(acc.count k:Int)) acc (i:Int)=some r∧(r=Ex.ret ([],false)∨∃ h l,r=Ex.go (h,l)∧l.length=y.buses.length∧D9 y.room [] l=true)
  | 0,i,acc,h,hi,_,_=>by omega
  | n+1,i,acc,h,hi,ha,hR=>by
    rw [Cy,Ca]
    by_cases hx:i<y.buses.length
    · have w1:IntKind.i64.wrap (5*(i:Int))=5*(i:Int):=JV (by omega) (by omega)
      have w2:IntKind.i64.wrap (5*(i:Int)+1)=5*(i:Int)+1:=JV (by omega) (by omega)
      simp only [hx,decide_true,cond_true]
      rw [w1,w2,KO n words hw _ (by omega),Option.bind_some,Pu (show((y.room.length:Nat):Int)≠0 by omega),Option.bind_some]
      have ht:=De (FT hw (5*(i:Int)+1)).1 (show(0:Int)<(y.room.length:Int) by omega)
      obtain⟨o,e1,e2,e3⟩:=IP y x14 (BU y.room.length fun k=>(acc.count k:Int)) hr0 (by omega) (HK _ _) n 0 _ (by omega) (by omega) ht.1 ht.2
      rw [show((0:Nat):Int)=0 from rfl] at e1
      have hbt:Fd o 0 ((y.room.length:Int)-1)=true:=by rw [Cs]; omega
      have er:By y.room o=some (Cv y.room o):=by
        have:=Gw (g:=fun k=>y.room.getD k.toNat 0) hbt
        rwa [← NO y.room] at this
      rw [e1]
      simp only [Option.bind_some,Gw hbt,er]
      by_cases hq:(acc.count o:Int)<Cv y.room o
      · have hcl:acc.count o≤100:=Nat.le_trans List.count_le_length (by omega)
        rw [decide_eq_false (show ¬ (acc.count o:Int)≥Cv y.room o by omega),cond_false,KM hbt,Option.bind_some,Ff _ _ (by simp; omega),Option.bind_some,Eu i (by omega),JV (by omega) (by omega)]
        have e4:(BU y.room.length fun x=>if x=o then(acc.count o:Int)+1 else(acc.count x:Int))=BU y.room.length fun k=>((acc++[o]).count k:Int):=by
          congr 1
          funext x
          rw [It]
          by_cases hxe:x=o
          · rw [if_pos hxe,if_pos hxe,hxe]
          · rw [if_neg hxe,if_neg hxe]; omega
        rw [e4]
        refine IQ hr0 hr hm hb hw x14 n (i+1) (acc++[o]) (by omega) (by omega) (by simp [ha]) ?_
        rw [Ki,hR,hbt,List.nil_append,decide_eq_true hq]
        rfl
      · rw [decide_eq_true (show(acc.count o:Int)≥Cv y.room o by omega),cond_true]
        exact⟨_,rfl,.inl rfl⟩
    · have:i=y.buses.length:=by omega
      exact⟨Ex.go ((BU y.room.length fun k=>(acc.count k:Int)),acc),by simp [this],.inr ⟨_,acc,rfl,by omega,hR⟩⟩
theorem PW (n:Nat) {y:Ak} (hr0:0<y.room.length) (hr:(y.room.all fun r=>Fd r 0 8)=true) (hm:y.room.length≤100) (hb:y.buses.length≤100) {words:List (IK .u16)} (hw:Q1 words) (hn:400≤n) :
    ∃ l is,Fi n y words=some (l,is)∧(is=true→Fg y l=true∧l.length=y.buses.length)∧(is=false→l=[]):=by
  unfold Fi
  rw [Su _ _ (by omega),Option.bind_some]
  obtain⟨r,e1,e2⟩:=IQ hr0 hr hm hb hw (List.replicate y.room.length 0) n 0 [] (by omega) (by omega) rfl rfl
  rw [show((0:Nat):Int)=0 from rfl,show(BU y.room.length fun k=>(([]:List Int).count k:Int))=List.replicate y.room.length 0 from(NP _).symm] at e1
  rw [e1]
  rcases e2 with rfl | ⟨h,l,rfl,h1,h2⟩
  · exact⟨[],false,rfl,by simp,by simp⟩
  · exact⟨l,true,rfl,fun _=>⟨by unfold Fg; rw [decide_eq_true h1,h2]; rfl,h1⟩,by simp⟩
theorem Q2 (n:Nat) (y:Ak) (hn:100≤n):FX n y=some (decide (y.room.length≤6) && decide (y.buses.length≤12) && decide (BK y=0)):=by
  unfold FX
  rw [Rg,Option.bind_some]
  by_cases h1:y.room.length≤6
  · by_cases h2:y.buses.length≤12
    · rw [Qw n y (by omega) (by omega) (by omega) (by omega)]
      by_cases hf:BK y=0
      · simp [h1,h2,hf]
      · have:(BK y == 0)=false:=by simp [hf]
        simp [h1,h2,hf,this]
    · simp [h1,h2]
  · simp [h1]
end Go.Proofs.Ythcbemnflgjadaa
namespace Go.Proofs.Ythcbemnflgjadaa
open Go Go.RowKit
def Iw (lanes order:List Int) (c:Int):List Int→Bool
  | []=>false
  | b::r=>NF lanes order c b || (c != b && Iw lanes order c r)
theorem IS (y:Ak) (lanes order:List Int) (c:Int):∀ (ts:List Int)(g:Int→Bool),c∈(BD y lanes order g ts).flatten↔c∈An y.buses.length∧g c=false∧Iw lanes order c ts=true
  | [],g=>by simp [BD,Iw]
  | b::r,g=>by
    rw [BD,List.flatten_cons,List.mem_append,Iu,IS y lanes order c r,Iw]
    unfold HZ
    simp only [Bool.or_eq_true,Bool.and_eq_true,bne_iff_ne]
    constructor
    · rintro(⟨h1,h2,h3⟩ | ⟨h1,h2,h3⟩)
      · exact⟨h1,h2,.inl h3⟩
      · split at h2
        · cases h2
        · rename_i hne
          simp only [Bool.or_eq_false_iff] at h2
          exact⟨h1,h2.1,.inr ⟨hne,h3⟩⟩
    · rintro⟨h1,h2,h3 | ⟨h3,h4⟩⟩
      · exact .inl ⟨h1,h2,h3⟩
      · cases hq:NF lanes order c b with
        | true=>exact .inl ⟨h1,h2,rfl⟩
        | false =>
          refine .inr ⟨h1,?_,h4⟩
          rw [if_neg h3,h2,Bool.false_or]
          cases hs:BL (EJ y lanes order g b) c with
          | false=>rfl
          | true =>
            have:c∈EJ y lanes order g b:=by simpa [BL] using hs
            rw [(Iu.1 this).2.2] at hq
            cases hq
theorem OV (lanes order:List Int) (c:Int):NF lanes order c c=false:=by simp [NF]
theorem Lq (key:Int→Int) (lanes order:List Int) (c:Int):∀ ts:List Int,ts.Pairwise (fun a b=>key a<key b)→(Iw lanes order c ts=true↔∃ b∈ts,NF lanes order c b=true∧(c∈ts→key b<key c))
  | [],_=>by simp [Iw]
  | b::r,hp=>by
    rw [List.pairwise_cons] at hp
    have ih:=Lq key lanes order c r hp.2
    rw [Iw]
    simp only [Bool.or_eq_true,Bool.and_eq_true,bne_iff_ne,ih]
    constructor
    · rintro(h | ⟨hne,d,hd,h1,h2⟩)
      · refine⟨b,by simp,h,fun hc=>?_⟩
        rcases List.mem_cons.1 hc with rfl | hc
        · rw [OV] at h; cases h
        · exact hp.1 c hc
      · refine⟨d,by simp [hd],h1,fun hc=>?_⟩
        rcases List.mem_cons.1 hc with rfl | hc
        · exact absurd rfl hne
        · exact h2 hc
    · rintro⟨d,hd,h1,h2⟩
      rcases List.mem_cons.1 hd with rfl | hd
      · exact .inl h1
      · by_cases hcb:c=b
        · exfalso
          have h3:=h2 (by simp [hcb])
          have h4:=hp.1 d hd
          rw [hcb] at h3
          omega
        · exact .inr ⟨hcb,d,hd,h1,fun hc=>h2 (by simp [hc])⟩
theorem MC:∀ (l s:List Int),Gv s l=false→(∀ t∈l,t ∉ s)∧l.Nodup
  | [],s,_=>by simp
  | t::r,s,h=>by
    unfold Gv at h
    simp only [Bool.or_eq_false_iff] at h
    obtain⟨h1,h2⟩:=h
    obtain⟨q1,q2⟩:=MC r (s++[t]) h2
    have h1':t ∉ s:=by simpa using h1
    refine⟨fun u hu=>?_,?_⟩
    · rcases List.mem_cons.1 hu with rfl | hu
      · exact h1'
      · exact fun hs=>q1 u hu (by simp [hs])
    · rw [List.nodup_cons]
      exact⟨fun hm=>q1 t hm (by simp),q2⟩
theorem NS {y:Ak} (hd:Gv [] (y.buses.map (·.turn))=false) {a b:Int} (ha:a∈An y.buses.length) (hb:b∈An y.buses.length) (h:CF y a=CF y b):a=b:=by
  have hn:=(MC _ _ hd).2
  rw [AI] at ha hb
  have hal:a.toNat<(y.buses.map (·.turn)).length:=by rw [List.length_map]; omega
  have hbl:b.toNat<(y.buses.map (·.turn)).length:=by rw [List.length_map]; omega
  have h1:(y.buses.map (·.turn))[a.toNat]=(y.buses.map (·.turn))[b.toNat]:=by
    rw [List.getElem_map,List.getElem_map]
    unfold CF A6 at h
    rw [List.length_map] at hal hbl
    simpa [List.getD_eq_getElem?_getD,List.getElem?_eq_getElem hal,List.getElem?_eq_getElem hbl] using h
  have:=(List.getElem_inj hn).1 h1
  omega
theorem Ms {y:Ak} (hd:Gv [] (y.buses.map (·.turn))=false) (f:Int→Bool):(D8 y f).Pairwise fun a b=>CF y a<CF y b:=by
  have h1:=Ld (CF y) (Mr y f)
  have h2:=Nl y f
  have h3:(D8 y f).Pairwise fun a b=>CF y a≤CF y b∧a≠b:=h1.and h2
  refine List.Pairwise.imp_of_mem (fun {a b} ha hb h=>?_) h3
  rcases Int.lt_or_eq_of_le h.1 with h4 | h4
  · exact h4
  · exact absurd (NS hd (DK.1 ha).1 (DK.1 hb).1 h4) h.2
def RS (y:Ak) (lanes order broken:List Int) (c b:Int):Prop:=b∈An y.buses.length∧BL broken b=false∧NF lanes order c b=true∧(BL broken c=false→CF y b<CF y c)
theorem Lr {y:Ak} (hd:Gv [] (y.buses.map (·.turn))=false) (lanes order broken:List Int) (c:Int):c∈AP y lanes order broken↔c∈An y.buses.length∧∃ b,RS y lanes order broken c b:=by
  unfold AP MA
  rw [List.mem_filter]
  have h1:BL (BD y lanes order (fun _=>false) (D8 y (BL broken))).flatten c=true↔c∈(BD y lanes order (fun _=>false) (D8 y (BL broken))).flatten:=by simp [BL]
  rw [h1,IS,Lq (CF y) lanes order c _ (Ms hd _)]
  constructor
  · rintro⟨hc,_,_,b,hb,h2,h3⟩
    have hb':=DK.1 hb
    exact⟨hc,b,hb'.1,hb'.2,h2,fun hq=>h3 (DK.2 ⟨hc,hq⟩)⟩
  · rintro⟨hc,b,hb,h2,h3,h4⟩
    exact⟨hc,hc,rfl,b,DK.2 ⟨hb,h2⟩,h3,fun hq=>h4 (DK.1 hq).2⟩
theorem Kj (l:List Int) (x:Int) (hl:l.length≤1000):∀ (n i:Nat),l.length<n+i→i≤l.length→∃ r,CJ n l x (i:Int)=some r∧(if x∈l.drop i then ∃ k:Int,0≤k∧r=Ex.ret k else r=Ex.go ())
  | 0,i,h,hi=>by omega
  | n+1,i,h,hi=>by
    rw [CJ,Ca]
    by_cases hx:i<l.length
    · simp only [hx,decide_true,cond_true,D3 _ _ hx,Option.bind_some]
      rw [Eu i (by omega),Cr hx]
      cases hv:(l[i] == x) with
      | true =>
        have:l[i]=x:=by simpa using hv
        exact⟨_,rfl,by rw [if_pos (by simp [this])]; exact⟨_,by omega,rfl⟩⟩
      | false =>
        have hne : ¬ x=l[i]:=fun he=>by rw [he] at hv; simp at hv
        obtain⟨r,h1,h2⟩:=Kj l x hl n (i+1) (by omega) (by omega)
        refine⟨r,h1,?_⟩
        simp only [List.mem_cons,hne,false_or]
        exact h2
    · have:i=l.length:=by omega
      subst this
      exact⟨Ex.go (),by simp,by simp⟩
theorem PX (n:Nat) {l:List Int} {x:Int} (hl:l.length≤1000) (hn:l.length<n) (hm:x∈l):∃ k,FY n l x=some k∧0≤k:=by
  unfold FY
  obtain⟨r,h1,h2⟩:=Kj l x hl n 0 (by omega) (by omega)
  rw [show((0:Nat):Int)=0 from rfl] at h1
  rw [List.drop_zero,if_pos hm] at h2
  obtain⟨k,hk,rfl⟩:=h2
  exact⟨k,by rw [h1]; rfl,hk⟩
theorem NT {l m:List Int} (hl:l.Nodup) (hs:m.Sublist l) {a b:Int} (ha:a∈m) (hb:b∈m) (h:BF m a<BF m b):BF l a<BF l b:=by
  have hm:m.Nodup:=List.Pairwise.sublist hs hl
  obtain⟨p,r,rfl⟩:=List.append_of_mem hb
  obtain⟨p1,p2,p3⟩:=Gy hm
  have hap:a∈p:=by
    rcases List.mem_append.1 ha with h1 | h1
    · exact h1
    · rcases List.mem_cons.1 h1 with rfl | h1
      · omega
      · have:=p3 a h1; rw [p1] at h; omega
  have h1:l.Pairwise fun c d=>BF l c≤BF l d:=by simpa using II l [] (by simpa using hl)
  have h2:=List.Pairwise.sublist hs h1
  rw [List.pairwise_append] at h2
  have h3:=h2.2.2 a hap b (by simp)
  have hne:a≠b:=fun he=>by rw [he] at h; omega
  rcases Int.lt_or_eq_of_le h3 with h4 | h4
  · exact h4
  · exact absurd (Lk (hs.mem ha) (hs.mem hb) h4) hne
theorem Ix {y:Ak} {l:List Int} (h:GJ y l=true):l.Pairwise (· < ·)∧(∀ b∈l,b∈An y.buses.length)∧(l.length:Int)≤y.broken:=by
  unfold GJ at h
  simp only [Bool.and_eq_true,decide_eq_true_eq] at h
  have key:∀ (l:List Int)(last:Int),IE y last l=true→(last::l).Pairwise (· < ·)∧∀ b∈l,b∈An y.buses.length:=by
    intro l
    induction l with
    | nil=>intro last _; simp
    | cons b r ih =>
      intro last hq
      unfold IE at hq
      simp only [Bool.and_eq_true,decide_eq_true_eq] at hq
      obtain⟨q1,q2⟩:=ih b hq.2.2
      refine⟨?_,fun c hc=>?_⟩
      · rw [List.pairwise_cons]
        refine⟨fun c hc=>?_,q1⟩
        rcases List.mem_cons.1 hc with rfl | hc
        · exact hq.2.1
        · rw [List.pairwise_cons] at q1
          have:=q1.1 c hc
          omega
      · rcases List.mem_cons.1 hc with rfl | hc
        · exact C4.1 hq.1
        · exact q2 c hc
  obtain⟨q1,q2⟩:=key l (-1) h.1
  rw [List.pairwise_cons] at q1
  exact⟨q1.2,q2,h.2⟩
theorem Q3 {y:Ak} {l:List Int} (h1:l.Pairwise (· < ·)) (h2:∀ b∈l,b∈An y.buses.length) (h3:(l.length:Int)≤y.broken):GJ y l=true:=by
  unfold GJ
  rw [decide_eq_true h3,Bool.and_true]
  refine Lp y l (-1) ?_ h2
  rw [List.pairwise_cons]
  exact⟨fun b hb=>by have:=AI.1 (h2 b hb); omega,h1⟩
theorem Ls (y:Ak):∀ (l pre:List Int),GZ y pre l=true→l.Pairwise (fun a b=>(A6 y a).lo≤(A6 y b).hi)∧∀ a∈pre,∀ b∈l,(A6 y a).lo≤(A6 y b).hi
  | [],pre,_=>by simp
  | b::r,pre,h=>by
    unfold GZ NJ at h
    simp only [Bool.and_eq_true,Bool.not_eq_true',Bool.or_eq_false_iff] at h
    obtain⟨⟨h1,h2,h3⟩,h4⟩:=h
    obtain⟨q1,q2⟩:=Ls y r (pre++[b]) h4
    have h5:∀ a∈pre,(A6 y a).lo≤(A6 y b).hi:=fun a ha=>by
      have:=List.any_eq_false.1 h3 a ha
      simp at this
      exact this
    refine⟨?_,fun a ha c hc=>?_⟩
    · rw [List.pairwise_cons]
      exact⟨fun c hc=>q2 b (by simp) c hc,q1⟩
    · rcases List.mem_cons.1 hc with rfl | hc
      · exact h5 a ha
      · exact q2 a (by simp [ha]) c hc
end Go.Proofs.Ythcbemnflgjadaa
namespace Go.Proofs.Ythcbemnflgjadaa
open Go Go.RowKit
theorem NU {l:List Int} {x:Int}:BL l x=true↔x∈l:=by simp [BL]
end Go.Proofs.Ythcbemnflgjadaa
namespace Go.Proofs.Ythcbemnflgjadaa
open Go Go.RowKit
def inl (lanes:List Int) (l b:Int):Bool:=Bo lanes b == l
def BM (y:Ak) (lanes:List Int) (l:Int):List Int:=(An y.buses.length).filter (inl lanes l)
def CN (y:Ak) (lanes:List Int) (l b:Int):Int:=if inl lanes l b then BF (BM y lanes l) b else -1
def CO (y:Ak) (lanes:List Int) (l:Int):Ak:=⟨[8],(BM y lanes l).map (A6 y),y.broken⟩
def CS (y:Ak) (lanes:List Int) (l:Int) (x:List Int):List Int:=(x.filter (inl lanes l)).map (CN y lanes l)
def Ev (y:Ak) (lanes:List Int) (l:Int):List Int:=List.replicate (BM y lanes l).length 0
section
variable {y:Ak} {lanes:List Int} {l:Int}
theorem Bl {b:Int}:b∈BM y lanes l↔b∈An y.buses.length∧inl lanes l b=true:=by unfold BM; rw [List.mem_filter]
theorem DM:(BM y lanes l).Nodup:=List.Pairwise.filter _ (Cb _)
theorem Lt:(BM y lanes l).length≤y.buses.length:=Nat.le_trans (List.length_filter_le _ _) (by rw [BY]; exact Nat.le_refl _)
theorem NV:(BM y lanes l).Pairwise (· < ·):=by
  refine List.Pairwise.filter _ (((FJ y.buses.length).and (Cb y.buses.length)).imp fun {a b} h=>?_)
  omega
theorem Pv {m:List Int} {b:Int} (h:b∈m):BF m b<m.length:=by
  unfold BF
  have:=List.idxOf_lt_length_iff.2 h
  simp [h]
  omega
theorem HL {b:Int} (hb:b∈BM y lanes l):CN y lanes l b∈An (BM y lanes l).length:=by
  unfold CN
  rw [if_pos (Bl.1 hb).2,AI]
  exact⟨(Fh _ _).1,Pv hb⟩
theorem Hd {b:Int} (hb:b∈BM y lanes l):CN y lanes l b=BF (BM y lanes l) b:=by
  unfold CN
  rw [if_pos (Bl.1 hb).2]
theorem NW {m:List Int} {b:Int} (h:b∈m):m[(BF m b).toNat]? = some b:=by
  unfold BF
  have h1:=List.idxOf_lt_length_iff.2 h
  simp only [List.contains_iff_mem,h,if_true,Int.toNat_natCast]
  rw [List.getElem?_eq_getElem h1,List.getElem_idxOf]
theorem Lu {m:List Int} (hn:m.Nodup) {k:Nat} (hk:k<m.length):BF m m[k]=k:=by
  have h1:=List.getElem_mem hk
  have h2:=NW h1
  have h3:=Pv h1
  have h4:=(Fh m m[k]).1
  have h5:(BF m m[k]).toNat<m.length:=by omega
  rw [List.getElem?_eq_getElem h5] at h2
  have:=(List.getElem_inj hn).1 (Option.some.inj h2)
  omega
theorem Iy {b:Int} (hb:b∈BM y lanes l):A6 (CO y lanes l) (CN y lanes l b)=A6 y b:=by
  rw [Hd hb]
  unfold CO
  conv=>lhs; unfold A6
  simp only [List.getD_eq_getElem?_getD,List.getElem?_map,NW hb]
  rfl
theorem HM {b:Int} (hb:b∈BM y lanes l):CF (CO y lanes l) (CN y lanes l b)=CF y b:=by
  unfold CF
  rw [Iy hb]
theorem KP {a b:Int} (ha:a∈BM y lanes l) (hb:b∈BM y lanes l) (h:CN y lanes l a=CN y lanes l b):a=b:=by
  rw [Hd ha,Hd hb] at h
  exact Lk ha hb h
theorem Pw:∀ (l s:List Int),(∀ t∈l,t ∉ s)→l.Nodup→Gv s l=false
  | [],_,_,_=>rfl
  | t::r,s,h1,h2=>by
    rw [List.nodup_cons] at h2
    unfold Gv
    have:=h1 t (by simp)
    rw [show s.contains t=false by simpa using this,Bool.false_or]
    refine Pw r (s++[t]) (fun u hu=>?_) h2.2
    have h3:=h1 u (by simp [hu])
    have h4:u≠t:=fun he=>h2.1 (he▸hu)
    simp [h3,h4]
theorem PY {b:Int} (hb:b∈An y.buses.length):A6 y b∈y.buses:=by
  rw [AI] at hb
  have:b.toNat<y.buses.length:=by omega
  unfold A6
  rw [List.getD_eq_getElem?_getD,List.getElem?_eq_getElem this]
  exact List.getElem_mem this
theorem HN {f:Int→Int}:∀ {l:List Int},l.Nodup→(∀ a∈l,∀ b∈l,f a=f b→a=b)→(l.map f).Nodup
  | [],_,_=>List.nodup_nil
  | a::r,hn,hf=>by
    rw [List.nodup_cons] at hn
    rw [List.map_cons,List.nodup_cons]
    refine⟨fun hm=>?_,HN hn.2 fun x hx z hz=>hf x (by simp [hx]) z (by simp [hz])⟩
    obtain⟨b,hb,he⟩:=List.mem_map.1 hm
    have:=hf b (by simp [hb]) a (by simp) he
    exact hn.1 (this▸hb)
theorem Lv (hf:BK y=0):BK (CO y lanes l)=0:=by
  obtain⟨v1,v0,v2,v3,v4,v5,v6⟩:=Ed hf
  have hl:=Lt (y:=y) (lanes:=lanes) (l:=l)
  unfold BK CO
  have h1:((BM y lanes l).map (A6 y)).all Dc=true:=List.all_eq_true.2 fun b hb=>by
    obtain⟨c,hc,rfl⟩:=List.mem_map.1 hb
    exact List.all_eq_true.1 v5 _ (PY (Bl.1 hc).1)
  have h2:Gv [] (((BM y lanes l).map (A6 y)).map (·.turn))=false:=by
    rw [List.map_map]
    refine Pw _ _ (by simp) ?_
    exact HN (f:=CF y) DM fun a ha b hb h=>NS v6 (Bl.1 ha).1 (Bl.1 hb).1 h
  rw [if_neg (by simp only [List.length_map,List.length_singleton]; omega),if_neg (by
    simp only [not_or]
    exact⟨by simp,by rw [v3]; simp,by simp [Fd],by rw [h1]; simp,by rw [h2]; simp⟩)]
theorem IT:∀ (k i:Nat),i+k≤8→D9 [8] (List.replicate i 0) (List.replicate k 0)=true
  | 0,_,_=>rfl
  | k+1,i,h=>by
    rw [List.replicate_succ,D9]
    have h1:((List.replicate i (0:Int)).count 0:Int)<Cv [8] 0:=by
      rw [List.count_replicate_self]
      show(i:Int)<8
      omega
    rw [decide_eq_true h1,show List.replicate i (0:Int)++[0]=List.replicate (i+1) 0 from(List.replicate_succ' ..).symm,IT k (i+1) (by omega)]
    rfl
theorem Lw {x:List Int} (hx:∀ b∈x,b∈An y.buses.length) {k:Int}:k∈CS y lanes l x↔∃ b∈x,b∈BM y lanes l∧CN y lanes l b=k:=by
  unfold CS
  rw [List.mem_map]
  constructor
  · rintro⟨b,hb,h⟩
    rw [List.mem_filter] at hb
    exact⟨b,hb.1,Bl.2 ⟨hx b hb.1,hb.2⟩,h⟩
  · rintro⟨b,hb,h1,h⟩
    exact⟨b,List.mem_filter.2 ⟨hb,(Bl.1 h1).2⟩,h⟩
theorem KQ {x:List Int} (hx:∀ b∈x,b∈An y.buses.length) {b:Int} (hb:b∈BM y lanes l):BL (CS y lanes l x) (CN y lanes l b)=BL x b:=by
  rw [Bool.eq_iff_iff,NU,NU,Lw hx]
  constructor
  · rintro⟨c,hc,h1,h2⟩
    rw [← KP h1 hb h2]
    exact hc
  · exact fun h=>⟨b,h,hb,rfl⟩
theorem DV {x:List Int} (hx:∀ b∈x,b∈An y.buses.length) {b:Int} (hb:b∈x.filter (inl lanes l)):b∈BM y lanes l:=by
  rw [List.mem_filter] at hb
  exact Bl.2 ⟨hx b hb.1,hb.2⟩
theorem OW {x:List Int} (hx:∀ b∈x,b∈An y.buses.length) (hn:x.Nodup):(CS y lanes l x).Nodup :=
  HN (List.Pairwise.filter _ hn) fun _ ha _ hb h=>KP (DV hx ha) (DV hx hb) h
theorem Ib {f:Int→Int} {b:Int}:∀ {m:List Int},(∀ a∈m,f a=f b→a=b)→b∈m→(m.map f).idxOf (f b)=m.idxOf b
  | [],_,h=>by simp at h
  | a::r,hf,h=>by
    rw [List.map_cons,List.idxOf_cons,List.idxOf_cons]
    by_cases ha:a=b
    · subst ha; simp
    · have h1:f a≠f b:=fun he=>ha (hf a (by simp) he)
      have h2:(f a == f b)=false:=by simp [h1]
      have h3:(a == b)=false:=by simp [ha]
      rw [h2,h3,cond_false,cond_false]
      rw [Ib (fun c hc=>hf c (by simp [hc])) (by
        rcases List.mem_cons.1 h with h4 | h4
        · exact absurd h4.symm ha
        · exact h4)]
theorem MD {x:List Int} (hx:∀ b∈x,b∈An y.buses.length) {b:Int} (hb:b∈x.filter (inl lanes l)):BF (CS y lanes l x) (CN y lanes l b)=BF (x.filter (inl lanes l)) b:=by
  have h1:CN y lanes l b∈CS y lanes l x:=List.mem_map.2 ⟨b,hb,rfl⟩
  unfold BF
  simp only [List.contains_iff_mem,h1,hb,if_true]
  unfold CS
  rw [Ib (fun a ha h=>KP (DV hx ha) (DV hx hb) h) hb]
theorem Q4 {m x:List Int} (hx:x.Nodup) (hs:m.Sublist x) {a b:Int} (ha:a∈m) (hb:b∈m):BF m a<BF m b↔BF x a<BF x b:=by
  refine⟨NT hx hs ha hb,fun h=>?_⟩
  rcases Int.lt_or_le (BF m a) (BF m b) with h1 | h1
  · exact h1
  · rcases Int.lt_or_eq_of_le h1 with h2 | h2
    · have:=NT hx hs hb ha h2
      omega
    · have:=Lk hb ha h2
      rw [this] at h
      omega
theorem NX {order:List Int} (hO:KN y order) {c b:Int} (hc:c∈BM y lanes l) (hb:b∈BM y lanes l):NF (Ev y lanes l) (CS y lanes l order) (CN y lanes l c) (CN y lanes l b)=NF lanes order c b:=by
  have hx:∀ b∈order,b∈An y.buses.length:=fun b hb=>(hO.mem b).1 hb
  have hcf:c∈order.filter (inl lanes l):=List.mem_filter.2 ⟨(hO.mem c).2 (Bl.1 hc).1,(Bl.1 hc).2⟩
  have hbf:b∈order.filter (inl lanes l):=List.mem_filter.2 ⟨(hO.mem b).2 (Bl.1 hb).1,(Bl.1 hb).2⟩
  have hz:∀ k,Bo (Ev y lanes l) k=0:=fun k=>by
    unfold Bo Ev
    rw [List.getD_eq_getElem?_getD,List.getElem?_replicate]
    split <;> rfl
  have h1:Bo lanes c=l:=by simpa [inl] using (Bl.1 hc).2
  have h2:Bo lanes b=l:=by simpa [inl] using (Bl.1 hb).2
  unfold NF
  rw [hz,hz,h1,h2,MD hx hcf,MD hx hbf,beq_self_eq_true,beq_self_eq_true,Bool.true_and,Bool.true_and,Bool.eq_iff_iff,decide_eq_true_eq,decide_eq_true_eq]
  exact Q4 hO.nd List.filter_sublist hcf hbf
theorem Q5 {order:List Int} (hO:KN y order):(order.filter (inl lanes l)).Perm (BM y lanes l) :=
  (List.perm_ext_iff_of_nodup (List.Pairwise.filter _ hO.nd) DM).2 fun b=>by
    rw [List.mem_filter,Bl,hO.mem]
theorem OX {order broken:List Int} (ha:BV y lanes order broken=0):BV (CO y lanes l) (Ev y lanes l) (CS y lanes l order) (CS y lanes l broken)=0:=by
  obtain⟨hf,hl,hll,hO,hbr,hpo⟩:=Gz ha
  obtain⟨v1,v0,v2,v3,v4,v5,v6⟩:=Ed hf
  have hlen:(CO y lanes l).buses.length=(BM y lanes l).length:=by unfold CO; rw [List.length_map]
  have hol:=Lt (y:=y) (lanes:=lanes) (l:=l)
  have hx:∀ b∈order,b∈An y.buses.length:=fun b hb=>(hO.mem b).1 hb
  obtain⟨q1,q2,q3⟩:=Ix hbr
  unfold BV
  rw [if_pos (Lv hf),if_pos]
  unfold F7
  simp only [Bool.and_eq_true]
  refine⟨?_,?_,?_⟩
  · unfold Fg
    simp only [Bool.and_eq_true,decide_eq_true_eq]
    exact⟨by rw [hlen]; simp [Ev],IT (BM y lanes l).length 0 (by omega)⟩
  · unfold GH
    simp only [Bool.and_eq_true,decide_eq_true_eq]
    refine⟨by rw [hlen]; unfold CS; rw [List.length_map,(Q5 hO).length_eq],Lo _ _ [] (by rw [List.nil_append]; exact OW hx hO.nd) (fun k hk=>?_) ?_⟩
    · obtain⟨b,hb,h1,rfl⟩:=(Lw hx).1 hk
      rw [hlen]
      exact HL h1
    · rw [List.nil_append]
      unfold CS
      rw [List.pairwise_map]
      unfold GH at hpo
      simp only [Bool.and_eq_true] at hpo
      refine List.Pairwise.imp_of_mem (fun {a b} ha hb h=>?_) (List.Pairwise.filter _ (Ls y order [] hpo.2).1)
      rw [Iy (DV hx ha),Iy (DV hx hb)]
      exact h
  · refine Q3 ?_ (fun k hk=>?_) ?_
    · unfold CS
      rw [List.pairwise_map]
      refine List.Pairwise.imp_of_mem (fun {a b} ha hb h=>?_) (List.Pairwise.filter _ q1)
      have ha':=DV q2 ha
      have hb':=DV q2 hb
      rw [Hd ha',Hd hb']
      obtain⟨p,r,he⟩:=List.append_of_mem ha'
      have hn:=DM (y:=y) (lanes:=lanes) (l:=l)
      have hri:=NV (y:=y) (lanes:=lanes) (l:=l)
      rw [he] at hn hri hb' ⊢
      obtain⟨p1,p2,p3⟩:=Gy hn
      rw [List.pairwise_append] at hri
      rcases List.mem_append.1 hb' with h1 | h1
      · have:=hri.2.2 b h1 a (by simp)
        omega
      · rcases List.mem_cons.1 h1 with h1 | h1
        · omega
        · rw [p1]; exact p3 b h1
    · obtain⟨b,hb,h1,rfl⟩:=(Lw q2).1 hk
      rw [hlen]
      exact HL h1
    · have:=List.length_filter_le (inl lanes l) broken
      unfold CS CO
      rw [List.length_map]
      simp only
      omega
theorem Lx {order broken:List Int} (ha:BV y lanes order broken=0) {c:Int} (hc:c∈BM y lanes l):CN y lanes l c∈AP (CO y lanes l) (Ev y lanes l) (CS y lanes l order) (CS y lanes l broken)↔c∈AP y lanes order broken:=by
  obtain⟨hf,hl,hll,hO,hbr,hpo⟩:=Gz ha
  obtain⟨q1,q2,q3⟩:=Ix hbr
  have hlen:(CO y lanes l).buses.length=(BM y lanes l).length:=by unfold CO; rw [List.length_map]
  rw [Lr (Ed (Lv (lanes:=lanes) (l:=l) hf)).2.2.2.2.2.2,Lr (Ed hf).2.2.2.2.2.2,hlen]
  constructor
  · rintro⟨_,k,h1,h2,h3,h4⟩
    rw [hlen] at h1
    rw [AI] at h1
    have hk:k.toNat<(BM y lanes l).length:=by omega
    have hb:=List.getElem_mem hk
    have hke:CN y lanes l (BM y lanes l)[k.toNat]=k:=by rw [Hd hb,Lu DM hk]; omega
    rw [← hke] at h2 h3 h4
    rw [KQ q2 hb] at h2
    rw [NX hO hc hb] at h3
    rw [KQ q2 hc,HM hb,HM hc] at h4
    exact⟨(Bl.1 hc).1,_,(Bl.1 hb).1,h2,h3,h4⟩
  · rintro⟨_,b,h1,h2,h3,h4⟩
    have hb:b∈BM y lanes l:=by
      refine Bl.2 ⟨h1,?_⟩
      unfold NF at h3
      simp only [Bool.and_eq_true,beq_iff_eq] at h3
      have:=(Bl.1 hc).2
      unfold inl at this ⊢
      rw [← h3.1]
      exact this
    refine⟨HL hc,CN y lanes l b,by rw [hlen]; exact HL hb,?_,?_,?_⟩
    · rw [KQ q2 hb]; exact h2
    · rw [NX hO hc hb]; exact h3
    · rw [KQ q2 hc,HM hb,HM hc]; exact h4
theorem OY {order broken:List Int} (ha:BV y lanes order broken=0):(AP (CO y lanes l) (Ev y lanes l) (CS y lanes l order) (CS y lanes l broken)).length=((AP y lanes order broken).filter (inl lanes l)).length:=by
  have hlen:(CO y lanes l).buses.length=(BM y lanes l).length:=by unfold CO; rw [List.length_map]
  have hsub:∀ c∈(AP y lanes order broken).filter (inl lanes l),c∈BM y lanes l:=fun c hc=>by
    rw [List.mem_filter] at hc
    unfold AP at hc
    rw [List.mem_filter] at hc
    exact Bl.2 ⟨hc.1.1,hc.2⟩
  have h1:(((AP y lanes order broken).filter (inl lanes l)).map (CN y lanes l)).Perm (AP (CO y lanes l) (Ev y lanes l) (CS y lanes l order) (CS y lanes l broken)):=by
    refine(List.perm_ext_iff_of_nodup (HN ?_ fun a ha' b hb h=>KP (hsub a ha') (hsub b hb) h) (List.Pairwise.filter _ (Cb _))).2 fun k=>?_
    · exact List.Pairwise.filter _ (List.Pairwise.filter _ (Cb _))
    · rw [List.mem_map]
      constructor
      · rintro⟨c,hc,rfl⟩
        exact(Lx ha (hsub c hc)).2 (List.mem_filter.1 hc).1
      · intro hk
        have hkr:k∈An (BM y lanes l).length:=by
          unfold AP at hk
          rw [List.mem_filter,hlen] at hk
          exact hk.1
        rw [AI] at hkr
        have hkl:k.toNat<(BM y lanes l).length:=by omega
        have hb:=List.getElem_mem hkl
        have hke:CN y lanes l (BM y lanes l)[k.toNat]=k:=by rw [Hd hb,Lu DM hkl]; omega
        refine⟨(BM y lanes l)[k.toNat],List.mem_filter.2 ⟨(Lx ha hb).1 (by rw [hke]; exact hk),(Bl.1 hb).2⟩,hke⟩
  rw [← h1.length_eq,List.length_map]
end
theorem No {n i:Nat} (h:i<n):∃ r,An n=An i++(i:Int)::r∧∀ c∈r,(i:Int)<c:=by
  obtain⟨k,rfl⟩:∃ k,n=i+1+k:=⟨n-(i+1),by omega⟩
  induction k with
  | zero=>exact⟨[],by rw [Nat.add_zero,CB],by simp⟩
  | succ k ih =>
    obtain⟨r,h1,h2⟩:=ih (by omega)
    refine⟨r++[((i+1+k:Nat):Int)],by rw [show i+1+(k+1)=(i+1+k)+1 by omega,CB,h1]; simp,fun c hc=>?_⟩
    rcases List.mem_append.1 hc with hc | hc
    · exact h2 c hc
    · simp at hc; omega
theorem Kk (y:Ak) (lanes:List Int) (l:Int) (o27:Bool) (hb:y.buses.length≤100) (hl:lanes.length=y.buses.length):∀ (n i:Nat),y.buses.length<n+i→i≤y.buses.length →
    Bu n y (o27,lanes) l (BU y.buses.length fun b=>if b<(i:Int) then CN y lanes l b else 0) ((An i).filter (inl lanes l)) (((An i).filter (inl lanes l)).map (A6 y)) (i:Int) =
      some (BU y.buses.length (CN y lanes l),BM y lanes l,(BM y lanes l).map (A6 y))
  | 0,i,h,hi=>by omega
  | n+1,i,h,hi=>by
    rw [Bu,Ca]
    by_cases hx:i<y.buses.length
    · have hm:(i:Int)∈An y.buses.length:=by rw [AI]; omega
      have hbt:Fd (i:Int) 0 ((y.buses.length:Int)-1)=true:=C4.2 hm
      have ih:=Kk y lanes l o27 hb hl n (i+1) (by omega) (by omega)
      rw [CB,List.filter_append,List.map_append] at ih
      have hlen:=List.length_filter_le (inl lanes l) (An i)
      rw [BY] at hlen
      simp only [hx,decide_true,cond_true,Gw hbt,KM hbt,Option.bind_some,Lh lanes (show(0:Int)≤(i:Int) by omega) (show(i:Int)<lanes.length by omega)]
      rw [Eu i (by omega),show(Bo lanes (i:Int) == l)=inl lanes l (i:Int) from rfl]
      cases hq:inl lanes l (i:Int) with
      | false =>
        have e1:(BU y.buses.length fun x=>if x=(i:Int) then -1 else(if x<(i:Int) then CN y lanes l x else 0))=BU y.buses.length fun b=>if b<((i+1:Nat):Int) then CN y lanes l b else 0:=by
          congr 1
          funext x
          by_cases h1:x=(i:Int)
          · rw [if_pos h1,if_pos (by omega),h1]; unfold CN; rw [hq]; rfl
          · rw [if_neg h1]
            by_cases h2:x<(i:Int)
            · rw [if_pos h2,if_pos (by omega)]
            · rw [if_neg h2,if_neg (by omega)]
        simp only [cond_false]
        rw [e1]
        simpa [hq] using ih
      | true =>
        obtain⟨r,hr1,hr2⟩:=No hx
        have hold:BM y lanes l=(An i).filter (inl lanes l)++(i:Int)::r.filter (inl lanes l):=by
          unfold BM
          rw [hr1,List.filter_append,List.filter_cons,if_pos hq]
        have hnum:CN y lanes l (i:Int)=(((An i).filter (inl lanes l)).length:Int):=by
          have hno:=DM (y:=y) (lanes:=lanes) (l:=l)
          unfold CN
          rw [if_pos hq,hold]
          rw [hold] at hno
          exact(Gy hno).1
        have e1:(BU y.buses.length fun x=>if x=(i:Int) then(((An i).filter (inl lanes l)).map (A6 y)).length else(if x=(i:Int) then -1 else(if x<(i:Int) then CN y lanes l x else 0)))=BU y.buses.length fun b=>if b<((i+1:Nat):Int) then CN y lanes l b else 0:=by
          congr 1
          funext x
          by_cases h1:x=(i:Int)
          · rw [if_pos h1,if_pos (by omega),h1,hnum,List.length_map]
          · rw [if_neg h1,if_neg h1]
            by_cases h2:x<(i:Int)
            · rw [if_pos h2,if_pos (by omega)]
            · rw [if_neg h2,if_neg (by omega)]
        simp only [cond_true,Gw hbt,KM hbt,Option.bind_some,IC y hbt]
        rw [Ff _ _ (by simp; omega)]
        simp only [Option.bind_some]
        rw [Ff _ _ (by simp; omega)]
        simp only [Option.bind_some]
        rw [e1]
        simpa [hq] using ih
    · have:i=y.buses.length:=by omega
      subst this
      have e1:(BU y.buses.length fun b=>if b<(y.buses.length:Int) then CN y lanes l b else 0)=BU y.buses.length (CN y lanes l):=by
        unfold BU
        apply List.map_congr_left
        intro b hb
        rw [if_pos (AI.1 hb).2]
      simp only [Nat.lt_irrefl,decide_false,cond_false]
      rw [e1]
      rfl
theorem NY {y:Ak} {lanes:List Int} {l b:Int}:decide (CN y lanes l b≥0)=inl lanes l b:=by
  unfold CN
  cases hq:inl lanes l b with
  | true =>
    have:=(Fh (BM y lanes l) b).1
    rw [if_pos rfl,decide_eq_true this]
  | false=>rfl
theorem Kl (y:Ak) (lanes:List Int) (l:Int) (x:List Int) (hx:∀ b∈x,b∈An y.buses.length) (hxl:x.length≤100) (o2:List Int×List AX):∀ (n i:Nat),x.length<n+i→i≤x.length →
    Bv n x (BU y.buses.length (CN y lanes l),o2) (CS y lanes l (x.take i)) (i:Int)=some (CS y lanes l x)
  | 0,i,h,hi=>by omega
  | n+1,i,h,hi=>by
    rw [Bv,Ca]
    by_cases hi':i<x.length
    · have hbt:=C4.2 (hx _ (List.getElem_mem hi'))
      simp only [hi',decide_true,cond_true,D3 _ _ hi',Option.bind_some,Gw hbt,NY]
      have ih:=Kl y lanes l x hx hxl o2 n (i+1) (by omega) (by omega)
      unfold CS at ih ⊢
      rw [List.take_succ_eq_append_getElem hi',List.filter_append,List.map_append] at ih
      rw [Eu i (by omega)]
      have hlen:=List.length_filter_le (inl lanes l) (x.take i)
      rw [List.length_take] at hlen
      cases hq:inl lanes l x[i] with
      | true =>
        simp only [cond_true]
        rw [Ff _ _ (by simp; omega),Option.bind_some,← ih]
        simp [hq]
      | false =>
        simp only [cond_false]
        rw [← ih]
        simp [hq]
    · have:i=x.length:=by omega
      subst this
      simp
theorem Km (y:Ak) (lanes:List Int) (l:Int) (x:List Int) (hx:∀ b∈x,b∈An y.buses.length) (hxl:x.length≤100) (o2:List Int×List AX):∀ (n i:Nat),x.length<n+i→i≤x.length →
    Bw n x (BU y.buses.length (CN y lanes l),o2) (CS y lanes l (x.take i)) (i:Int)=some (CS y lanes l x)
  | 0,i,h,hi=>by omega
  | n+1,i,h,hi=>by
    rw [Bw,Ca]
    by_cases hi':i<x.length
    · have hbt:=C4.2 (hx _ (List.getElem_mem hi'))
      simp only [hi',decide_true,cond_true,D3 _ _ hi',Option.bind_some,Gw hbt,NY]
      have ih:=Km y lanes l x hx hxl o2 n (i+1) (by omega) (by omega)
      unfold CS at ih ⊢
      rw [List.take_succ_eq_append_getElem hi',List.filter_append,List.map_append] at ih
      rw [Eu i (by omega)]
      have hlen:=List.length_filter_le (inl lanes l) (x.take i)
      rw [List.length_take] at hlen
      cases hq:inl lanes l x[i] with
      | true =>
        simp only [cond_true]
        rw [Ff _ _ (by simp; omega),Option.bind_some,← ih]
        simp [hq]
      | false =>
        simp only [cond_false]
        rw [← ih]
        simp [hq]
    · have:i=x.length:=by omega
      subst this
      simp
theorem Ko (s t old:List Int) (e f:Int) (tb:List Int) (bs:List AX) (hs:s.length≤100) (ht:t.length≤100) (hol:old.length≤100) (hm:∀ k∈t,∃ b,0≤k∧k<old.length∧old[k.toNat]? = some b∧b∈s) (m0:Nat) (hm0:m0≤1000):∀ (n i:Nat),300≤n+i→i≤t.length →
    BH n (s,e) (tb,old,bs) (t,f) (i:Int) ((m0+i:Nat):Int)=some (Ex.go ((m0+t.length:Nat):Int))
  | 0,i,h,hi=>by omega
  | n+1,i,h,hi=>by
    rw [BH]
    dsimp only
    rw [Ca]
    by_cases hx:i<t.length
    · obtain⟨b,h1,h2,h3,h4⟩:=hm _ (List.getElem_mem hx)
      obtain⟨k,h5,h6⟩:=PX n (by omega) (show s.length<n by omega) h4
      have w1:IntKind.i64.wrap ((old.length:Int)-1)=(old.length:Int)-1:=JV (by omega) (by omega)
      have hbt:Fd t[i] 0 ((old.length:Int)-1)=true:=by rw [Cs]; omega
      have hix:By old t[i]=some b:=by
        obtain⟨j,hj⟩:=Int.eq_ofNat_of_zero_le h1
        rw [hj,Rf]
        rw [hj] at h3
        simpa using h3
      simp only [hx,decide_true,cond_true,D3 _ _ hx,Option.bind_some,HI,w1,hbt,Bool.not_true,cond_false,hix,h5,decide_eq_false (show ¬ k<0 by omega)]
      rw [Eu i (by omega),JV (x:=((m0+i:Nat):Int)+1) (by omega) (by omega),show((m0+i:Nat):Int)+1=((m0+(i+1):Nat):Int) by omega]
      exact Ko s t old e f tb bs hs ht hol hm m0 hm0 n (i+1) (by omega) (by omega)
    · have:i=t.length:=by omega
      subst this
      simp
theorem Kp (lanes:List Int) (i:Nat):∀ s:List Int,(s.filter fun c=>decide (Bo lanes c<((i+1:Nat):Int))).length=(s.filter fun c=>decide (Bo lanes c<(i:Int))).length+(s.filter (inl lanes (i:Int))).length
  | []=>rfl
  | c::r=>by
    have ih:=Kp lanes i r
    rw [List.filter_cons,List.filter_cons,List.filter_cons]
    unfold inl at ih ⊢
    by_cases h1:Bo lanes c<(i:Int)
    · have h2:Bo lanes c<((i+1:Nat):Int):=by omega
      have h3:(Bo lanes c == (i:Int))=false:=by simp; omega
      simp only [h1,h2,h3,decide_true,if_true,List.length_cons]
      simp only [Bool.false_eq_true,if_false]
      omega
    · by_cases h4:Bo lanes c=(i:Int)
      · have h2:Bo lanes c<((i+1:Nat):Int):=by omega
        have h3:(Bo lanes c == (i:Int))=true:=by simp [h4]
        simp only [h1,h2,h3,decide_true,decide_false,if_true,List.length_cons]
        simp only [Bool.false_eq_true,if_false]
        omega
      · have h2 : ¬ Bo lanes c<((i+1:Nat):Int):=by omega
        have h3:(Bo lanes c == (i:Int))=false:=by simp [h4]
        simp only [h1,h2,h3,decide_false]
        simp only [Bool.false_eq_true,if_false]
        exact ih
theorem Kq {y:Ak} {lanes order broken:List Int} (ha:BV y lanes order broken=0) (hbl:broken.length≤20) (o27:Bool) (e1:Int):∀ (n i:Nat),600≤n+i→i≤y.room.length →
    BI n y (o27,lanes) order broken (AP y lanes order broken,e1) (i:Int) (((AP y lanes order broken).filter fun c=>decide (Bo lanes c<(i:Int))).length:Int)=some (Ex.go (((AP y lanes order broken).filter fun c=>decide (Bo lanes c<(y.room.length:Int))).length:Int))
  | 0,i,h,hi=>by
    obtain⟨hf,_⟩:=Gz ha
    have:=(Ed hf).1
    omega
  | n+1,i,h,hi=>by
    obtain⟨hf,hl,hll,hO,hbr,hpo⟩:=Gz ha
    obtain⟨v1,v0,v2,v3,v4,v5,v6⟩:=Ed hf
    obtain⟨q1,q2,q3⟩:=Ix hbr
    rw [BI,Ca]
    by_cases hx:i<y.room.length
    · have hol:=Lt (y:=y) (lanes:=lanes) (l:=(i:Int))
      have z0:List.replicate y.buses.length (0:Int)=BU y.buses.length fun b=>if b<((0:Nat):Int) then CN y lanes (i:Int) b else 0:=by
        rw [NP]
        unfold BU
        apply List.map_congr_left
        intro b hb
        rw [if_neg (by have:=AI.1 hb; omega)]
      have g2:=Kk y lanes (i:Int) o27 (by omega) hll n 0 (by omega) (by omega)
      rw [← z0,show(An 0).filter (inl lanes (i:Int))=[] from rfl,List.map_nil,show((0:Nat):Int)=0 from rfl] at g2
      have g3:=Kl y lanes (i:Int) order (fun b hb=>(hO.mem b).1 hb) (by rw [hO.len]; omega) (BM y lanes (i:Int),(BM y lanes (i:Int)).map (A6 y)) n 0 (by rw [hO.len]; omega) (by omega)
      have g4:=Km y lanes (i:Int) broken q2 (by omega) (BM y lanes (i:Int),(BM y lanes (i:Int)).map (A6 y)) n 0 (by omega) (by omega)
      rw [show((0:Nat):Int)=0 from rfl,List.take_zero,show CS y lanes (i:Int) []=[] from rfl] at g3 g4
      have hs:=OX (l:=(i:Int)) ha
      have hml:(CS y lanes (i:Int) order).length≤8:=by
        have:=List.length_filter_le (inl lanes (i:Int)) order
        unfold CS; rw [List.length_map]; rw [hO.len] at this; omega
      have hmb:(CS y lanes (i:Int) broken).length≤20:=by
        have:=List.length_filter_le (inl lanes (i:Int)) broken
        unfold CS; rw [List.length_map]; omega
      have hsy:(CO y lanes (i:Int)).buses.length=(BM y lanes (i:Int)).length:=by unfold CO; rw [List.length_map]
      have g5:=MB n (CO y lanes (i:Int)) (Ev y lanes (i:Int)) (CS y lanes (i:Int) order) (CS y lanes (i:Int) broken) (by unfold CO; simp) (by rw [hsy]; omega) (by unfold Ev; simp; omega) (by omega) (by omega) (by omega)
      rw [hs,if_pos rfl] at g5
      have hsl:=IM y lanes order broken
      have htl:=IM (CO y lanes (i:Int)) (Ev y lanes (i:Int)) (CS y lanes (i:Int) order) (CS y lanes (i:Int) broken)
      have hfl:=List.length_filter_le (fun c=>decide (Bo lanes c<(i:Int))) (AP y lanes order broken)
      have g6:=Ko (AP y lanes order broken) (AP (CO y lanes (i:Int)) (Ev y lanes (i:Int)) (CS y lanes (i:Int) order) (CS y lanes (i:Int) broken)) (BM y lanes (i:Int)) e1 0 (BU y.buses.length (CN y lanes (i:Int))) ((BM y lanes (i:Int)).map (A6 y)) (by omega) (by rw [hsy] at htl; omega) (by omega) (fun k hk=>by
        have hkr:k∈An (BM y lanes (i:Int)).length:=by
          unfold AP at hk
          rw [List.mem_filter,hsy] at hk
          exact hk.1
        rw [AI] at hkr
        have hkl:k.toNat<(BM y lanes (i:Int)).length:=by omega
        have hb:=List.getElem_mem hkl
        have hke:CN y lanes (i:Int) (BM y lanes (i:Int))[k.toNat]=k:=by rw [Hd hb,Lu DM hkl]; omega
        exact⟨_,hkr.1,hkr.2,List.getElem?_eq_getElem hkl,(Lx ha hb).1 (by rw [hke]; exact hk)⟩) ((AP y lanes order broken).filter fun c=>decide (Bo lanes c<(i:Int))).length (by omega) n 0 (by omega) (by omega)
      rw [show((0:Nat):Int)=0 from rfl,Nat.add_zero,OY ha,← Kp] at g6
      simp only [hx,decide_true,cond_true]
      rw [Su _ _ (by omega),Option.bind_some,g2,Option.bind_some,g3,Option.bind_some,g4,Option.bind_some]
      dsimp only
      rw [show(Ak.mk [8] ((BM y lanes (i:Int)).map (A6 y)) y.broken)=CO y lanes (i:Int) from rfl,JW n (CO y lanes (i:Int)) (by unfold CO; simp) (by rw [hsy]; omega) (by rw [hsy]; omega),Option.bind_some,List.length_map,Su _ _ (by omega),Option.bind_some,
        show List.replicate (BM y lanes (i:Int)).length (0:Int)=Ev y lanes (i:Int) from rfl,g5,Option.bind_some]
      dsimp only
      rw [bne_self_eq_false,cond_false,g6,Option.bind_some]
      rw [Eu i (by omega)]
      exact Kq ha hbl o27 e1 n (i+1) (by omega) (by omega)
    · have:i=y.room.length:=by omega
      subst this
      simp
theorem ME (room:List Int):∀ (l pre:List Int),D9 room pre l=true→∀ b∈l,Fd b 0 ((room.length:Int)-1)=true
  | [],_,_,b,h=>by simp at h
  | a::r,pre,h,b,hb=>by
    rw [D9] at h
    simp only [Bool.and_eq_true] at h
    rcases List.mem_cons.1 hb with rfl | hb
    · exact h.1
    · exact ME room r _ h.2.2 b hb
theorem Mt (y:Ak) (words:List (IK .u16)) (hw:Q1 words):E4 700 y words=some true:=by
  unfold E4
  rw [Q2 700 y (by omega)]
  simp only [Option.bind_some,OP]
  by_cases hf:BK y=0
  rotate_left
  · simp [hf]
  obtain⟨v1,v0,v2,v3,v4,v5,v6⟩:=Ed hf
  have v3':=Cs.1 v3
  rw [show(decide (y.room.length≤6) && decide (y.buses.length≤12) && decide (BK y=0))=true by
    rw [decide_eq_true hf,decide_eq_true (show y.room.length≤6 by omega),decide_eq_true (show y.buses.length≤12 by omega)]; rfl]
  obtain⟨lanes,is,e1,e2,e3⟩:=PW 700 v0 v4 (by omega) (by omega) hw (by omega)
  rw [cond_true,e1]
  simp only [Option.bind_some]
  cases is with
  | false=>simp
  | true =>
    obtain⟨l1,l2⟩:=e2 rfl
    simp only [Bool.not_true,cond_false]
    obtain⟨broken,d1,d2,d3⟩:=Ro 700 (y:=y) (by omega) v3'.1 hw (by omega)
    have hpo:=PV v5 hw
    have hO:=Lj hpo
    have ha:BV y lanes (DL y words) broken=0:=by
      unfold BV F7
      rw [if_pos hf,l1,hpo,d2]
      rfl
    rw [Rn 700 (by omega) v5 hw (by omega),Option.bind_some,d1,Option.bind_some,JW 700 y (by omega) (by omega) (by omega),Option.bind_some,F6 700 lanes (by omega),Option.bind_some,
      F6 700 (DL y words) (by rw [hO.len]; omega),Option.bind_some,F6 700 broken (by omega),Option.bind_some,
      MB 700 y lanes (DL y words) broken (by omega) (by omega) (by omega) (by rw [hO.len]; omega) (by omega) (by omega),Option.bind_some,ha,if_pos rfl]
    simp only [bne_self_eq_false,cond_false]
    have hin:∀ c∈AP y lanes (DL y words) broken,0≤Bo lanes c∧Bo lanes c<(y.room.length:Int):=fun c hc=>by
      unfold AP at hc
      rw [List.mem_filter] at hc
      have hcr:=AI.1 hc.1
      have hcl:c.toNat<lanes.length:=by omega
      unfold Fg at l1
      simp only [Bool.and_eq_true] at l1
      have:=Cs.1 (ME _ _ _ l1.2 _ (List.getElem_mem hcl))
      unfold Bo
      rw [List.getD_eq_getElem?_getD,List.getElem?_eq_getElem hcl]
      simp only [Option.getD_some]
      omega
    have g1:=Kq ha (by omega) true 0 700 0 (by omega) (by omega)
    have f0:(AP y lanes (DL y words) broken).filter (fun c=>decide (Bo lanes c<((0:Nat):Int)))=[]:=by
      rw [List.filter_eq_nil_iff]
      intro c hc
      have:=hin c hc
      simp
      omega
    have f1:(AP y lanes (DL y words) broken).filter (fun c=>decide (Bo lanes c<(y.room.length:Int)))=AP y lanes (DL y words) broken:=by
      rw [List.filter_eq_self]
      intro c hc
      exact decide_eq_true (hin c hc).2
    rw [f0,f1,show((0:Nat):Int)=0 from rfl,show((([]:List Int).length:Nat):Int)=0 from rfl] at g1
    rw [g1]
    simp [Ex.bind]
end Go.Proofs.Ythcbemnflgjadaa
