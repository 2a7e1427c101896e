/- The plain law. -/
import Derived.Test.YthcbemnflgjadaanbP0
import Derived.KernelRfl
set_option linter.all false
namespace Go.Proofs.Ythcbemnflgjadaa
open Go Go.RowKit
theorem He {x:Int} (h0 : -9223372036854775808≤x) (h1:x≤9223372036854775807):IntKind.i64.wrap x=x:=by
  simp [IntKind.wrap,IntKind.bits,IntKind.signed]; omega
theorem DB (i:Nat) (h:i<1000000000000):IntKind.i64.wrap ((i:Int)+1)=((i+1:Nat):Int):=by
  rw [He (by omega) (by omega)]; omega
theorem RG {α:Type} (xs:List α) (i:Nat):B6 xs (i:Int)=xs[i]?:=rfl
theorem Dv {α:Type} (xs:List α) (i:Nat) (h:i<xs.length):B6 xs (i:Int)=some xs[i]:=by rw [RG,List.getElem?_eq_getElem h]
theorem ED {α:Type} (xs ys:List α) (h:xs.length+ys.length≤1000000000):LH xs ys=some (xs++ys):=by
  unfold LH; rw [if_pos (by simpa using h)]
theorem TO {α:Type} (xs:List α) (i:Nat) (y:α) (h:i<xs.length):upd xs (i:Int) y=some (xs.set i y):=by
  show(if i<xs.length then some (xs.set i y) else none)=_
  rw [if_pos h]
theorem Uq {α:Type} (n:Nat) (x:α) (h:n≤1000000000):mk (n:Int) x=some (List.replicate n x):=by
  unfold mk; rw [if_pos (by omega)]; rfl
theorem B3 {α:Type} {xs:List α} {i:Nat} (h:i<xs.length):xs.drop i=xs[i]::xs.drop (i+1):=List.drop_eq_getElem_cons h
theorem B4 {α:Type} (xs:List α) (i:Nat):decide ((i:Int)<((xs.length:Nat):Int))=decide (i<xs.length):=by
  by_cases h:i<xs.length <;> simp [h]
theorem G7 {K α:Type} [DecidableEq K] (k j:K) (x:α):∀ l:List (K×α),Dg (Gj l k x) j=if k=j then some x else Dg l j
  | []=>by simp [Gj,Dg]
  | p::r=>by
    unfold Gj
    by_cases h:p.1=k
    · rw [if_pos h]
      simp only [Dg]
      by_cases hj:k=j
      · simp [hj]
      · simp [hj,h]
    · rw [if_neg h,Dg,Dg,G7 k j x r]
      by_cases hj:p.1=j
      · have:k≠j:=fun e=>h (by rw [hj,e])
        simp [hj,this]
      · simp [hj]
theorem NO {α β:Type} {x:Option α} {v:α} {f:α→Option β} (h:x=some v):x.bind f=f v:=by rw [h]; rfl
theorem OC (l:List Int):(EE l).Pairwise (·≤·):=by
  have:=List.pairwise_mergeSort (le:=fun x y:Int=>decide (x≤y)) (fun a b c h1 h2=>by simp at *; omega) (fun a b=>by simp; omega) l
  exact this.imp fun h=>by simpa using h
theorem So {l l':List Int} (hp:l.Perm l') (hs:l'.Pairwise (·≤·)):EE l=l' :=
  List.Perm.eq_of_pairwise (le:=(·≤·)) (fun _ _ _ _ h1 h2=>Int.le_antisymm h1 h2) (OC l) hs ((List.mergeSort_perm l _).trans hp)
theorem Po {l l':List Int} (hp:l.Perm l') (hs:l'.Pairwise (·≤·)) (hl:l.length≤1000000):Nh l=some l':=by
  unfold Nh
  rw [if_pos (by omega),So hp hs]
def QC:Ag:=⟨[2,2],[⟨100,120,40⟩,⟨110,130,20⟩,⟨125,140,30⟩,⟨150,160,10⟩],0⟩
def Sp:Ch:=⟨QC,[0,0,1,1],⟨0,1,2,3,0,0,0,0⟩,⟨false,false,false,false,false,false,false,false⟩⟩
theorem TP:C1 700 QC [0,0,1,1] [0,1,2,3] []=some ([0,2],0):=by
  unfold C1
  refine(NO (v:=(Sp,0)) (by kernel_rfl)).trans ?_
  show((Cg 700 Sp).bind fun x25=>(BC 700 x25).bind fun x26=>(Nh x26).bind fun u_80=>some (u_80,0))=_
  refine(NO (v:=[[2],[0],[],[]]) (by kernel_rfl)).trans ?_
  refine(NO (v:=[2,0]) (by kernel_rfl)).trans ?_
  exact NO (Po (by decide) (by decide) (by decide))
theorem Ms:CX 700=some true:=by
  unfold CX
  refine(NO (v:=QC) rfl).trans ?_
  refine(NO TP).trans ?_
  kernel_rfl
theorem CI (n:Nat) (l:List Int) (h:l.length≤1000):Cp n l=some l:=by
  unfold Cp
  simp [ED [] l (by simp; omega)]
theorem JP (n:Nat) (l:List Int) (h:l.length≤1000):By n l=some l:=by
  unfold By
  simp [ED [] l (by simp; omega)]
theorem HP (y:Ag) (hb:y.buses.length≤1000):∀ (n i:Nat)(acc:List BK),y.buses.length<n+i→i≤y.buses.length→acc.length=i→DI n y acc (i:Int)=some (acc++y.buses.drop i)
  | 0,i,acc,h,hi,_=>by omega
  | n+1,i,acc,h,hi,ha=>by
    rw [DI,B4]
    by_cases hx:i<y.buses.length
    · simp only [hx,decide_true,cond_true,Dv _ _ hx,Option.bind_some]
      rw [ED _ _ (by simp; omega)]
      simp only [Option.bind_some]
      rw [DB i (by omega),HP y hb n (i+1) _ (by omega) (by omega) (by simp; omega),B3 hx,List.append_assoc]
      rfl
    · have:i=y.buses.length:=by omega
      simp [this]
theorem HQ (n:Nat) (y:Ag) (hr:y.room.length≤1000) (hb:y.buses.length≤1000) (hn:y.buses.length<n):CM n y=some y:=by
  unfold CM
  have e1:=HP y hb n 0 [] (by omega) (by omega) rfl
  rw [show((0:Nat):Int)=0 from rfl] at e1
  rw [CI n _ hr,Option.bind_some,e1]
  simp
def DT (x lo hi:Int):Bool:=decide (lo≤x) && decide (x≤hi)
theorem AY {x lo hi:Int}:DT x lo hi=true↔lo≤x∧x≤hi:=by simp [DT]
theorem G8 (n:Nat) (x lo hi:Int):G0 n x lo hi=some (DT x lo hi):=by
  unfold G0 DT
  rw [show decide (x≥lo)=decide (lo≤x) from rfl]
  cases decide (lo≤x) <;> rfl
theorem G9 (n:Nat) (x lo hi:Int):Cz n x lo hi=some (DT x lo hi):=by
  unfold Cz DT
  cases decide (lo≤x) <;> rfl
def CD (b:BK):Bool:=DT b.lo 0 b.hi && (decide (b.hi≤2000) && DT b.turn 0 2000)
theorem Sq (n:Nat) (b:BK):Ck n b=some (CD b):=by
  unfold Ck CD
  simp only [G9,Option.bind_some]
  cases DT b.lo 0 b.hi <;> cases decide (b.hi≤2000) <;> rfl
theorem Ls (s:List Int) (f:Int→Option Bool) (g:Int→Bool) (hf:∀ c∈s,f c=some (g c)) (hs:s.length≤1000000):∀ (n i:Nat),s.length<n+i→i≤s.length →
    ∃ r,AO n s f (i:Int)=some r∧(if (s.drop i).any g then ∃ k:Int,0≤k∧r=Ex.ret k else r=Ex.go ())
  | 0,i,h,hi=>by omega
  | n+1,i,h,hi=>by
    rw [AO,B4]
    by_cases hx:i<s.length
    · simp only [hx,decide_true,cond_true,Dv _ _ hx,Option.bind_some,hf _ (List.getElem_mem hx)]
      rw [DB i (by omega),B3 hx,List.any_cons]
      cases hv:g s[i] with
      | true=>exact⟨Ex.ret (i:Int),rfl,⟨i,by omega,rfl⟩⟩
      | false =>
        obtain⟨r,h1,h2⟩:=Ls s f g hf hs n (i+1) (by omega) (by omega)
        exact⟨r,h1,by rw [Bool.false_or]; exact h2⟩
    · have:i=s.length:=by omega
      subst this
      exact⟨Ex.go (),by simp,by simp⟩
theorem QD (n:Nat) (l:List Int) (f:Int→Option Bool) (g:Int→Bool) (hf:∀ c∈l,f c=some (g c)) (h:l.length<n) (hs:l.length≤1000000):DW n l f=some (l.all g):=by
  unfold DW BH Ci
  obtain⟨r,h1,h2⟩:=Ls l (fun y0=>C8 n y0 f) (fun c=>!g c) (fun c hc=>by unfold C8; rw [hf c hc]; rfl) hs n 0 (by omega) (by omega)
  rw [show((0:Nat):Int)=0 from rfl] at h1
  rw [h1]
  simp only [List.drop_zero] at h2
  have hn:l.all g=!l.any fun c=>!g c:=by
    rw [List.not_any_eq_all_not]; simp
  rw [hn]
  split at h2
  · rename_i hm
    obtain⟨k,hk,rfl⟩:=h2
    simp [Ex.bind,hm,hk]
  · rename_i hm
    subst h2
    simp [Ex.bind,hm]
theorem Lt (s:List BK) (f:BK→Option Bool) (g:BK→Bool) (hf:∀ c∈s,f c=some (g c)) (hs:s.length≤1000000):∀ (n i:Nat),s.length<n+i→i≤s.length →
    ∃ r,A4 n s f (i:Int)=some r∧(if (s.drop i).any g then ∃ k:Int,0≤k∧r=Ex.ret k else r=Ex.go ())
  | 0,i,h,hi=>by omega
  | n+1,i,h,hi=>by
    rw [A4,B4]
    by_cases hx:i<s.length
    · simp only [hx,decide_true,cond_true,Dv _ _ hx,Option.bind_some,hf _ (List.getElem_mem hx)]
      rw [DB i (by omega),B3 hx,List.any_cons]
      cases hv:g s[i] with
      | true=>exact⟨Ex.ret (i:Int),rfl,⟨i,by omega,rfl⟩⟩
      | false =>
        obtain⟨r,h1,h2⟩:=Lt s f g hf hs n (i+1) (by omega) (by omega)
        exact⟨r,h1,by rw [Bool.false_or]; exact h2⟩
    · have:i=s.length:=by omega
      subst this
      exact⟨Ex.go (),by simp,by simp⟩
theorem QE (n:Nat) (l:List BK) (f:BK→Option Bool) (g:BK→Bool) (hf:∀ c∈l,f c=some (g c)) (h:l.length<n) (hs:l.length≤1000000):Cs n l f=some (l.all g):=by
  unfold Cs AX Bk
  obtain⟨r,h1,h2⟩:=Lt l (fun y0=>B5 n y0 f) (fun c=>!g c) (fun c hc=>by unfold B5; rw [hf c hc]; rfl) hs n 0 (by omega) (by omega)
  rw [show((0:Nat):Int)=0 from rfl] at h1
  rw [h1]
  simp only [List.drop_zero] at h2
  have hn:l.all g=!l.any fun c=>!g c:=by
    rw [List.not_any_eq_all_not]; simp
  rw [hn]
  split at h2
  · rename_i hm
    obtain⟨k,hk,rfl⟩:=h2
    simp [Ex.bind,hm,hk]
  · rename_i hm
    subst h2
    simp [Ex.bind,hm]
def FH:List Int→List Int→Bool
  | _,[]=>false
  | s,t::r=>s.contains t || FH (s++[t]) r
theorem Lu (y:Ag) (hb:y.buses.length≤1000):∀ (n i:Nat)(m:List (Int×Bool))(s:List Int),y.buses.length<n+i→i≤y.buses.length→(∀ t,(Ej m t false).1=s.contains t) →
    ∃ r,BE n y (i:Int) m=some r∧(if FH s ((y.buses.drop i).map (·.turn)) then r=Ex.ret 1 else ∃ m',r=Ex.go m')
  | 0,i,m,s,h,hi,_=>by omega
  | n+1,i,m,s,h,hi,hm=>by
    rw [BE,B4]
    by_cases hx:i<y.buses.length
    · simp only [hx,decide_true,cond_true,Dv _ _ hx,Option.bind_some,hm]
      rw [DB i (by omega),B3 hx,List.map_cons,FH]
      cases hv:s.contains y.buses[i].turn with
      | true=>exact⟨_,rfl,rfl⟩
      | false =>
        simp only [cond_false,Bool.false_or]
        refine Lu y hb n (i+1) _ (s++[y.buses[i].turn]) (by omega) (by omega) fun t=>?_
        have:=hm t
        unfold Ej at this ⊢
        rw [G7]
        by_cases ht:y.buses[i].turn=t
        · simp [ht]
        · rw [if_neg ht,this]
          simp [Ne.symm ht]
    · have:i=y.buses.length:=by omega
      subst this
      exact⟨Ex.go m,by simp,by simp [FH]⟩
def Bc (y:Ag):Int :=
  if 3<y.room.length∨8<y.buses.length then 3
  else if y.room.length=0∨DT y.broken 0 2=false∨(y.room.all fun r=>DT r 0 8)=false∨y.buses.all CD=false∨FH [] (y.buses.map (·.turn))=true then 1 else 0
theorem HR (n:Nat) (y:Ag) (hr:y.room.length≤1000) (hb:y.buses.length≤1000) (h1:y.room.length<n) (h2:y.buses.length<n):BU n y=some (Bc y):=by
  unfold BU Bc
  have e1:DW n y.room (fun y0=>BO n y0)=some (y.room.all fun r=>DT r 0 8):=QD n _ _ _ (fun c _=>by unfold BO; rw [G9]; rfl) h1 (by omega)
  have e2:Cs n y.buses (fun y0=>Ck n y0)=some (y.buses.all CD):=QE n _ _ _ (fun c _=>Sq n c) h2 (by omega)
  obtain⟨r,e3,e4⟩:=Lu y hb n 0 [] [] (by omega) (by omega) (fun t=>by simp [Ej,Dg])
  rw [show((0:Nat):Int)=0 from rfl] at e3
  rw [List.drop_zero] at e4
  have c1:decide (((y.room.length:Nat):Int)>3)=decide (3<y.room.length):=by by_cases h:3<y.room.length <;> simp [h] <;> omega
  have c2:decide (((y.buses.length:Nat):Int)>8)=decide (8<y.buses.length):=by by_cases h:8<y.buses.length <;> simp [h] <;> omega
  have c3:(((y.room.length:Nat):Int) == 0)=decide (y.room.length=0):=by by_cases h:y.room.length=0 <;> simp [h]
  rw [c1,c2,c3]
  by_cases a1:3<y.room.length
  · simp [a1]
  by_cases a2:8<y.buses.length
  · simp [a1,a2]
  simp only [a1,a2,decide_false,cond_false,Option.bind_some,or_self,if_false]
  by_cases a3:y.room.length=0
  · simp [a3]
  simp only [a3,decide_false,cond_false,G9,Option.bind_some,false_or,e1,e2]
  cases a4:DT y.broken 0 2 with
  | false=>simp
  | true =>
  cases a5:(y.room.all fun r=>DT r 0 8) with
  | false=>simp
  | true =>
  cases a6:y.buses.all CD with
  | false=>simp
  | true =>
  simp only [Bool.not_true,cond_false,Option.bind_some,e3]
  cases a7:FH [] (y.buses.map (·.turn)) with
  | true =>
    rw [a7] at e4
    simp only [if_true] at e4
    subst e4
    simp [Ex.bind]
  | false =>
    rw [a7] at e4
    obtain⟨m',rfl⟩:=e4
    simp [Ex.bind]
theorem Lv (y:Ag) (hb:y.room.length≤1000):∀ (n i:Nat),y.room.length<n+i→i≤y.room.length →
    Dj n y (i:Int)=some (if (y.room.drop i).all (fun r=>DT r 0 8) then Ex.go () else Ex.ret 1)
  | 0,i,h,hi=>by omega
  | n+1,i,h,hi=>by
    rw [Dj,B4]
    by_cases hx:i<y.room.length
    · simp only [hx,decide_true,cond_true,Dv _ _ hx,Option.bind_some,G8]
      rw [DB i (by omega),B3 hx,List.all_cons]
      cases hv:DT y.room[i] 0 8 with
      | false=>simp
      | true=>simpa using Lv y hb n (i+1) (by omega) (by omega)
    · have:i=y.room.length:=by omega
      subst this
      simp
theorem Lw (y:Ag) (hb:y.buses.length≤1000) (k:Nat) (b:BK) (hk:k≤y.buses.length):∀ (n i:Nat),k<n+i→i≤k →
    Dk n y (k:Int) b (i:Int)=some (if (((y.buses.take k).drop i).map (·.turn)).contains b.turn then Ex.ret 1 else Ex.go ())
  | 0,i,h,hi=>by omega
  | n+1,i,h,hi=>by
    rw [Dk]
    by_cases hx:i<k
    · have hx':i<(y.buses.take k).length:=by rw [List.length_take]; omega
      have hl:i<y.buses.length:=by omega
      simp only [show decide ((i:Int)<(k:Int))=true by simp; omega,cond_true,Dv _ _ hl,Option.bind_some]
      rw [DB i (by omega),B3 hx',List.map_cons,List.contains_cons,List.getElem_take]
      cases hv:(y.buses[i].turn == b.turn) with
      | true =>
        have:(b.turn == y.buses[i].turn)=true:=by rw [beq_iff_eq] at hv ⊢; exact hv.symm
        simp [this]
      | false =>
        have:(b.turn == y.buses[i].turn)=false:=by
          cases hq:(b.turn == y.buses[i].turn) with
          | false=>rfl
          | true=>rw [beq_iff_eq] at hq; rw [hq] at hv; simp at hv
        rw [this,Bool.false_or]
        simpa using Lw y hb k b hk n (i+1) (by omega) (by omega)
    · have:i=k:=by omega
      subst this
      simp
theorem Lx (y:Ag) (hb:y.buses.length≤500):∀ (n i:Nat),2*y.buses.length<n+i→i≤y.buses.length →
    Dm n y (i:Int)=some (if (y.buses.drop i).all CD=false∨FH ((y.buses.take i).map (·.turn)) ((y.buses.drop i).map (·.turn))=true then Ex.ret 1 else Ex.go ())
  | 0,i,h,hi=>by omega
  | n+1,i,h,hi=>by
    rw [Dm,B4]
    by_cases hx:i<y.buses.length
    · simp only [hx,decide_true,cond_true,Dv _ _ hx,Option.bind_some,G8]
      have e1:=Lw y (by omega) i y.buses[i] (by omega) n 0 (by omega) (by omega)
      rw [show((0:Nat):Int)=0 from rfl] at e1
      have e2:=Lx y hb n (i+1) (by omega) (by omega)
      rw [DB i (by omega),e1,e2,B3 hx,List.all_cons,List.map_cons,FH,List.drop_zero]
      have e3:(y.buses.take (i+1)).map (·.turn)=(y.buses.take i).map (·.turn)++[y.buses[i].turn]:=by
        rw [List.take_succ_eq_append_getElem hx,List.map_append]; rfl
      rw [e3]
      have e4:decide (y.buses[i].hi>2000)=!decide (y.buses[i].hi≤2000):=by
        by_cases hq:y.buses[i].hi≤2000
        · simp [hq,Int.not_lt.2 hq]
        · simp [hq]; omega
      rw [e4]
      unfold CD
      cases DT y.buses[i].lo 0 y.buses[i].hi <;> cases decide (y.buses[i].hi≤2000) <;> cases DT y.buses[i].turn 0 2000 <;> cases ((y.buses.take i).map (·.turn)).contains y.buses[i].turn <;> simp [Ex.bind,CD]
    · have:i=y.buses.length:=by omega
      subst this
      simp [FH]
theorem Sr (n:Nat) (y:Ag) (hr:y.room.length≤100) (hb:y.buses.length≤100) (h1:y.room.length<n) (h2:2*y.buses.length<n):GK n y=some (Bc y):=by
  unfold GK Bc
  have e1:=Lv y (by omega) n 0 (by omega) (by omega)
  have e2:=Lx y (by omega) n 0 (by omega) (by omega)
  rw [show((0:Nat):Int)=0 from rfl] at e1 e2
  simp only [List.drop_zero,List.take_zero,List.map_nil] at e1 e2
  have c1:decide (((y.room.length:Nat):Int)>3)=decide (3<y.room.length):=by by_cases h:3<y.room.length <;> simp [h] <;> omega
  have c2:decide (((y.buses.length:Nat):Int)>8)=decide (8<y.buses.length):=by by_cases h:8<y.buses.length <;> simp [h] <;> omega
  have c3:decide (((y.room.length:Nat):Int)<1)=decide (y.room.length=0):=by by_cases h:y.room.length=0 <;> simp [h] <;> omega
  rw [c1,c2,c3,e1,e2]
  by_cases a1:3<y.room.length
  · simp [a1]
  by_cases a2:8<y.buses.length
  · simp [a1,a2]
  simp only [a1,a2,decide_false,cond_false,Option.bind_some,or_self,if_false]
  by_cases a3:y.room.length=0
  · simp [a3]
  simp only [a3,decide_false,cond_false,G8,Option.bind_some,false_or]
  cases a4:DT y.broken 0 2 <;> cases a5:(y.room.all fun r=>DT r 0 8) <;> cases a6:y.buses.all CD <;> cases a7:FH [] (y.buses.map (·.turn)) <;> simp [Ex.bind]
theorem Td (n:Nat) (y:Ag):Io n y=some (decide (y.room.length≤6) && decide (y.buses.length≤12)):=by
  unfold Io
  by_cases h1:y.room.length≤6 <;> by_cases h2:y.buses.length≤12
  all_goals
    have e1:decide (((y.room.length:Nat):Int)≤6)=decide (y.room.length≤6):=by simp; omega
    have e2:decide (((y.buses.length:Nat):Int)≤12)=decide (y.buses.length≤12):=by simp; omega
    rw [e1,e2]
    simp [h1,h2]
end Go.Proofs.Ythcbemnflgjadaa
namespace Go.Proofs.Ythcbemnflgjadaa
open Go Go.RowKit
def Ao (y:Ag) (b:Int):BK:=y.buses.getD b.toNat default
theorem Hg (y:Ag) {b:Int} (h:DT b 0 ((y.buses.length:Int)-1)=true):B6 y.buses b=some (Ao y b):=by
  rw [AY] at h
  obtain⟨k,rfl⟩:=Int.eq_ofNat_of_zero_le h.1
  rw [Dv _ _ (by omega)]
  unfold Ao
  simp [List.getD_eq_getElem?_getD,List.getElem?_eq_getElem (show k<y.buses.length by omega)]
theorem CU {y:Ag} (hv:y.buses.all CD=true) {b:Int} (h:DT b 0 ((y.buses.length:Int)-1)=true):0≤(Ao y b).lo∧(Ao y b).lo≤(Ao y b).hi∧(Ao y b).hi≤2000∧0≤(Ao y b).turn∧(Ao y b).turn≤2000:=by
  rw [AY] at h
  have hl:b.toNat<y.buses.length:=by omega
  have:CD (Ao y b)=true:=by
    unfold Ao
    rw [List.getD_eq_getElem?_getD,List.getElem?_eq_getElem hl]
    exact List.all_eq_true.1 hv _ (List.getElem_mem hl)
  unfold CD at this
  simp only [Bool.and_eq_true,AY,decide_eq_true_eq] at this
  omega
theorem Ly (n:Nat) (y:Ag) (b:Int) (h:y.buses.length≤1000):D1 n y b=some (DT b 0 ((y.buses.length:Int)-1)):=by
  unfold D1
  rw [He (by omega) (by omega),G9]
  rfl
theorem Ml (n:Nat) (a b:Int):C0 (n+2) [a,b]=some (max a b):=by
  have e1:IntKind.i64.wrap 2=2:=by decide
  by_cases h:a<b
  · have:max a b=b:=by omega
    simp [C0,C9,Br,B6,e1,h,this]
  · have:max a b=a:=by omega
    simp [C0,C9,Br,B6,e1,h,this]
theorem Hh {b:Int} (h0:0≤b) (h8:b<8):Jh 8 b=some ():=by
  unfold Jh; rw [if_pos ⟨h0,h8⟩]
theorem JQ {b:Int} (h0:0≤b) (h8:b<8):b=0∨b=1∨b=2∨b=3∨b=4∨b=5∨b=6∨b=7:=by omega
def As (f:Int→Bool):Ar:=⟨f 0,f 1,f 2,f 3,f 4,f 5,f 6,f 7⟩
def GA (f:Int→Int):An:=⟨f 0,f 1,f 2,f 3,f 4,f 5,f 6,f 7⟩
theorem GB (f:Int→Bool) {b:Int} (h0:0≤b) (h8:b<8):B6 (As f).toL b=some (f b):=by
  rcases JQ h0 h8 with h | h | h | h | h | h | h | h <;> subst h <;> rfl
theorem Mm (f:Int→Int) {b:Int} (h0:0≤b) (h8:b<8):B6 (GA f).toL b=some (f b):=by
  rcases JQ h0 h8 with h | h | h | h | h | h | h | h <;> subst h <;> rfl
theorem GC (f:Int→Bool) {b:Int} (h0:0≤b) (h8:b<8) (v:Bool):Ar.setI (As f) b v=some (As fun x=>if x=b then v else f x):=by
  rcases JQ h0 h8 with h | h | h | h | h | h | h | h <;> subst h <;> rfl
theorem Te (f:Int→Int) {b:Int} (h0:0≤b) (h8:b<8) (v:Int):An.setI (GA f) b v=some (GA fun x=>if x=b then v else f x):=by
  rcases JQ h0 h8 with h | h | h | h | h | h | h | h <;> subst h <;> rfl
theorem CJ {f g:Int→Bool} (h:∀ b,f b=g b):As f=As g:=by rw [funext h]
theorem Pp {f g:Int→Int} (h:∀ b,f b=g b):GA f=GA g:=by rw [funext h]
def A7 (l:List Int) (b:Int):Bool:=l.contains b
def CE (l:List Int) (b:Int):Int:=if l.contains b then(l.idxOf b:Int) else 0
theorem GD (l:List Int) (c b:Int):A7 (l++[c]) b=if b=c then true else A7 l b:=by
  unfold A7
  by_cases h:b=c
  · subst h; simp
  · simp [h]
theorem RH (l:List Int) (c:Int) (hc:l.contains c=false) (b:Int):CE (l++[c]) b=if b=c then(l.length:Int) else CE l b:=by
  unfold CE
  by_cases h:b=c
  · subst h
    have hm:b ∉ l:=by simpa using hc
    simp [List.idxOf_append,hm]
  · by_cases hb:b∈l
    · simp [h,hb,List.idxOf_append]
    · simp [h,hb]
def HS (y:Ag) (l:List Int):Int:=l.foldl (fun m b=>max m (Ao y b).lo) 0
theorem QF (y:Ag) (l:List Int) (b:Int):HS y (l++[b])=max (HS y l) (Ao y b).lo:=by
  unfold HS; rw [List.foldl_append]; rfl
theorem Pq (y:Ag) (x:Int) (hx:0≤x) (l:List Int):decide (x<HS y l)=l.any fun k=>decide (x<(Ao y k).lo):=by
  have key:∀ (l:List Int)(m:Int),decide (x<l.foldl (fun m b=>max m (Ao y b).lo) m)=(decide (x<m) || l.any fun k=>decide (x<(Ao y k).lo)):=by
    intro l
    induction l with
    | nil=>intro m; exact(Bool.or_false _).symm
    | cons a r ih =>
      intro m
      rw [List.foldl_cons,ih,List.any_cons,← Bool.or_assoc]
      congr 1
      by_cases h1:x<m <;> by_cases h2:x<(Ao y a).lo <;> simp [h1,h2] <;> omega
  unfold HS
  rw [key]
  simp [Int.not_lt.2 hx]
def Pr (y:Ag) (pre:List Int) (b:Int):Bool:=DT b 0 ((y.buses.length:Int)-1) && !(pre.contains b || pre.any fun k=>decide ((Ao y b).hi<(Ao y k).lo))
def HT (y:Ag):List Int→List Int→Bool
  | _,[]=>true
  | pre,b::r=>Pr y pre b && HT y (pre++[b]) r
def Ei (y:Ag) (order:List Int):Bool:=decide (order.length=y.buses.length) && HT y [] order
theorem HU (y:Ag) (hb:y.buses.length≤8) (hv:y.buses.all CD=true) (order:List Int) (ho:order.length≤1000):∀ (n i:Nat),order.length+2<n+i→i≤order.length →
    ∃ r,Bs n y order (i:Int) (HS y (order.take i)) (GA (CE (order.take i))) (As (A7 (order.take i)))=some r ∧
      (if HT y (order.take i) (order.drop i) then r=Ex.go (GA (CE order),As (A7 order)) else ∃ x,r=Ex.ret (x,false))
  | 0,i,h,hi=>by omega
  | n+1,i,h,hi=>by
    rw [Bs,B4]
    by_cases hx:i<order.length
    · obtain⟨n,rfl⟩:∃ m,n=m+2:=⟨n-2,by omega⟩
      simp only [hx,decide_true,cond_true,Dv _ _ hx,Option.bind_some,Ly _ y _ (by omega)]
      rw [B3 hx,HT]
      unfold Pr
      cases h1:DT order[i] 0 ((y.buses.length:Int)-1) with
      | false=>exact⟨_,rfl,by simp⟩
      | true =>
        have h1':=AY.1 h1
        have h8:order[i]<8:=by omega
        simp only [Bool.not_true,cond_false,Hh h1'.1 h8,Option.bind_some,GB _ h1'.1 h8,Hg y h1]
        cases h2:A7 (order.take i) order[i] with
        | true =>
          have h2':(order.take i).contains order[i]=true:=h2
          exact⟨_,rfl,by rw [h2']; simp⟩
        | false =>
          have h2':(order.take i).contains order[i]=false:=h2
          simp only [cond_false,Option.bind_some,Pq y _ (show 0≤(Ao y order[i]).hi by have:=CU hv h1; omega)]
          cases h3:(order.take i).any fun k=>decide ((Ao y order[i]).hi<(Ao y k).lo) with
          | true=>exact⟨_,rfl,by rw [h2']; simp⟩
          | false =>
            simp only [cond_false,GC _ h1'.1 h8,Option.bind_some,Ml,Te _ h1'.1 h8]
            rw [DB i (by omega),← QF]
            have e1:order.take i++[order[i]]=order.take (i+1):=(List.take_succ_eq_append_getElem hx).symm
            have e2:(As fun x=>if x=order[i] then true else A7 (order.take i) x)=As (A7 (order.take (i+1))):=CJ fun b=>by rw [← e1,GD]
            have e3:(GA fun x=>if x=order[i] then(i:Int) else CE (order.take i) x)=GA (CE (order.take (i+1))):=Pp fun b=>by
              rw [← e1,RH _ _ h2',List.length_take,Nat.min_eq_left (Nat.le_of_lt hx)]
            rw [e1,e2,e3,h2']
            simp only [Bool.or_self,Bool.not_false,Bool.and_self,Bool.true_and]
            exact HU y hb hv order ho (n+2) (i+1) (by omega) (by omega)
    · have:i=order.length:=by omega
      subst this
      simp [HT]
theorem Ty:(An.mk 0 0 0 0 0 0 0 0)=GA (CE []):=rfl
theorem Rm:(Ar.mk false false false false false false false false)=As (A7 []):=rfl
theorem Lz (n:Nat) (y:Ag) (hb:y.buses.length≤8) (hv:y.buses.all CD=true) (order:List Int) (ho:order.length≤1000) (hn:order.length+2<n) :
    ∃ x,Cf n y order=some (x,Ei y order)∧(Ei y order=true→x=GA (CE order)):=by
  unfold Cf Ei
  by_cases hl:order.length=y.buses.length
  · obtain⟨r,h1,h2⟩:=HU y hb hv order ho n 0 (by omega) (by omega)
    rw [show((0:Nat):Int)=0 from rfl] at h1
    simp only [List.take_zero,List.drop_zero] at h1 h2
    have e0:HS y []=0:=rfl
    rw [e0] at h1
    rw [Ty,Rm,h1]
    rw [show((order.length:Int) != (y.buses.length:Int))=false by simp [hl]]
    simp only [cond_false,Option.bind_some,hl,decide_true,Bool.true_and]
    split at h2
    · rename_i hp
      subst h2
      exact⟨_,by rw [hp]; rfl,fun _=>rfl⟩
    · rename_i hp
      obtain⟨x,rfl⟩:=h2
      exact⟨x,by simp [Ex.bind,hp],fun h=>absurd h hp⟩
  · rw [show((order.length:Int) != (y.buses.length:Int))=true by simp; omega]
    simp only [cond_true]
    exact⟨GA (CE []),by rw [Ty]; simp [hl],fun h=>by simp [hl] at h⟩
theorem Cb {y:Ag} (h:Bc y=0):y.room.length≤3∧0<y.room.length∧y.buses.length≤8∧DT y.broken 0 2=true∧(y.room.all fun r=>DT r 0 8)=true∧y.buses.all CD=true∧FH [] (y.buses.map (·.turn))=false:=by
  unfold Bc at h
  split at h
  · omega
  · split at h
    · omega
    · rename_i h1 h2
      simp only [not_or] at h2
      simp only [Bool.not_eq_false,Bool.not_eq_true] at h2
      exact⟨by omega,by omega,by omega,h2.2.1,h2.2.2.1,h2.2.2.2.1,h2.2.2.2.2⟩
end Go.Proofs.Ythcbemnflgjadaa
namespace Go.Proofs.Ythcbemnflgjadaa
open Go Go.RowKit
theorem Tf {α:Type} (p:List α) (x:α) (r:List α):(p++x::r)[p.length]? = some x:=by simp
theorem Tg {α:Type} (p:List α) (x z:α) (r:List α):(p++x::r).set p.length z=p++z::r:=by
  rw [List.set_append_right _ _ (Nat.le_refl _),Nat.sub_self]; rfl
theorem F8 {α:Type} (p:List α) (x:α) (r:List α) {k:Nat} (hk:k=p.length):B6 (p++x::r) (k:Int)=some x:=by subst hk; rw [RG,Tf]
theorem IN {α:Type} (p:List α) (x z:α) (r:List α) {k:Nat} (hk:k=p.length):upd (p++x::r) (k:Int) z=some (p++z::r):=by
  subst hk; rw [TO _ _ _ (by simp),Tg]
def HV (lt:Int→Int→Bool) (x:Int):List Int→List Int
  | []=>[x]
  | y::r=>if lt x y then y::HV lt x r else x::y::r
def Ps (lt:Int→Int→Bool) (l:List Int) (x:Int):List Int:=(HV lt x l.reverse).reverse
def Eo (lt:Int→Int→Bool) (l:List Int):List Int:=l.foldl (Ps lt) []
theorem KR (lt:Int→Int→Bool) (x:Int):∀ l,(HV lt x l).Perm (x::l)
  | []=>.refl _
  | y::r=>by
    unfold HV
    split
    · exact((KR lt x r).cons y).trans (.swap x y r)
    · exact .refl _
theorem RI (lt:Int→Int→Bool) (l:List Int) (x:Int):(Ps lt l x).Perm (l++[x]):=by
  unfold Ps
  refine(List.reverse_perm _).trans ((KR lt x _).trans ?_)
  refine((List.reverse_perm l).cons x).trans ?_
  exact(List.perm_append_singleton x l).symm
theorem HA (lt:Int→Int→Bool):∀ (l acc:List Int),(l.foldl (Ps lt) acc).Perm (acc++l)
  | [],acc=>by simp
  | x::r,acc=>by
    rw [List.foldl_cons]
    refine(HA lt r _).trans ?_
    refine((RI lt acc x).append_right r).trans ?_
    simp
theorem D0 (lt:Int→Int→Bool) (l:List Int):(Eo lt l).Perm l:=by simpa [Eo] using HA lt l []
theorem DC (lt:Int→Int→Bool) (l:List Int):(Eo lt l).length=l.length:=(D0 lt l).length_eq
theorem NP (lt:Int→Int→Bool) (l:List Int) (x:Int):Eo lt (l++[x])=Ps lt (Eo lt l) x:=by simp [Eo,List.foldl_append]
theorem L0 {lt:Int→Int→Bool} {le:Int→Int→Prop} (h1:∀ a b,lt a b=true→le a b) (h2:∀ a b,lt a b=false→le b a) (ht:∀ a b c,le a b→le b c→le a c) (x:Int) :
    ∀ l:List Int,l.Pairwise (fun a b=>le b a)→(HV lt x l).Pairwise (fun a b=>le b a)
  | [],_=>by simp [HV]
  | y::r,h=>by
    rw [List.pairwise_cons] at h
    unfold HV
    split
    · rename_i hx
      rw [List.pairwise_cons]
      refine⟨fun z hz=>?_,L0 h1 h2 ht x r h.2⟩
      rcases List.mem_cons.1 ((KR lt x r).mem_iff.1 hz) with rfl | hz
      · exact h1 _ _ hx
      · exact h.1 z hz
    · rename_i hx
      have hyx:=h2 x y (by simpa using hx)
      rw [List.pairwise_cons,List.pairwise_cons]
      refine⟨fun z hz=>?_,h⟩
      rcases List.mem_cons.1 hz with rfl | hz
      · exact hyx
      · exact ht _ _ _ (h.1 z hz) hyx
theorem Pt {lt:Int→Int→Bool} {le:Int→Int→Prop} (h1:∀ a b,lt a b=true→le a b) (h2:∀ a b,lt a b=false→le b a) (ht:∀ a b c,le a b→le b c→le a c) (l:List Int):(Eo lt l).Pairwise le:=by
  have key:∀ (l acc:List Int),acc.Pairwise le→(l.foldl (Ps lt) acc).Pairwise le:=by
    intro l
    induction l with
    | nil=>intro acc h; exact h
    | cons x r ih =>
      intro acc h
      rw [List.foldl_cons]
      refine ih _ ?_
      unfold Ps
      rw [List.pairwise_reverse]
      exact L0 h1 h2 ht x _ (List.pairwise_reverse.2 h)
  exact key l [] List.Pairwise.nil
theorem Mt (cmp:Int→Int→Option Int) (lt:Int→Int→Bool) (x:Int):∀ (A B:List Int)(n:Nat),A.length<n→A.length≤1000000→(∀ y∈A,∃ d,cmp x y=some d∧decide (d<0)=lt x y) →
    A1 n 0 cmp (A.reverse++x::B) (A.length:Int)=some ((HV lt x A).reverse++B)
  | _,_,0,h,_,_=>by omega
  | [],B,n+1,_,_,_=>by
    rw [A1]
    simp [HV]
  | y::A,B,n+1,h,hl,hc=>by
    obtain⟨d,hd,hlt⟩:=hc y (by simp)
    have hl':A.length+1≤1000000:=by simpa using hl
    have e0:(y::A).reverse++x::B=A.reverse++y::x::B:=by simp
    have e1:(y::A).reverse++x::B=(A.reverse++[y])++x::B:=by simp
    have hk:(A.reverse++[y]).length=A.length+1:=by simp
    have i1:B6 ((y::A).reverse++x::B) ((A.length+1:Nat):Int)=some x:=by rw [e1,F8 _ _ _ hk.symm]
    have i2:B6 ((y::A).reverse++x::B) (A.length:Int)=some y:=by rw [e0,F8 _ _ _ (by simp)]
    have u1:upd ((y::A).reverse++x::B) ((A.length+1:Nat):Int) y=some (A.reverse++y::y::B):=by rw [e1,IN _ _ _ _ hk.symm]; simp
    have i3:B6 (A.reverse++y::y::B) (A.length:Int)=some y:=F8 _ _ _ (by simp)
    have u2:upd (A.reverse++y::y::B) (A.length:Int) x=some (A.reverse++x::y::B):=IN _ _ _ _ (by simp)
    have w1:IntKind.i64.wrap (((A.length+1:Nat):Int)-1)=(A.length:Int):=by rw [He (by omega) (by omega)]; omega
    have g1:decide (((A.length+1:Nat):Int)>0)=true:=decide_eq_true (by omega)
    rw [A1,List.length_cons]
    simp only [g1,cond_true,i1,i2,w1,Option.bind_some,hd,hlt]
    unfold HV
    cases hx:lt x y with
    | false=>simp
    | true =>
      simp only [cond_true,u1,i3,u2,Option.bind_some,if_true]
      rw [Mt cmp lt x A (y::B) n (by simp at h; omega) (by omega) fun z hz=>hc z (by simp [hz])]
      simp
theorem Mu (cmp:Int→Int→Option Int) (lt:Int→Int→Bool) (l:List Int) (hl:l.length≤1000) (hc:∀ x∈l,∀ y∈l,∃ d,cmp x y=some d∧decide (d<0)=lt x y):∀ (n i:Nat),2*l.length+2≤n+i→i≤l.length →
    A2 n 0 (l.length:Int) cmp (Eo lt (l.take i)++l.drop i) (i:Int)=some (Eo lt l)
  | 0,i,h,hi=>by omega
  | n+1,i,h,hi=>by
    rw [A2]
    by_cases hx:i<l.length
    · have h1:=Mt cmp lt l[i] (Eo lt (l.take i)).reverse (l.drop (i+1)) n (by simp [DC]; omega) (by simp [DC]; omega) (fun y hy=>hc _ (List.getElem_mem hx) y (by
        have:=(D0 lt (l.take i)).mem_iff.1 (List.mem_reverse.1 hy)
        exact List.mem_of_mem_take this))
      rw [List.reverse_reverse,List.length_reverse,DC,List.length_take,Nat.min_eq_left (Nat.le_of_lt hx),← B3 hx] at h1
      have e1:(HV lt l[i] (Eo lt (l.take i)).reverse).reverse=Eo lt (l.take (i+1)):=by
        rw [List.take_succ_eq_append_getElem hx,NP]; rfl
      rw [show decide ((i:Int)<(l.length:Int))=true by simp; omega,cond_true,h1,Option.bind_some,DB i (by omega),e1]
      exact Mu cmp lt l hl hc n (i+1) (by omega) (by omega)
    · have:i=l.length:=by omega
      subst this
      simp
theorem OD (n:Nat) (cmp:Int→Int→Option Int) (lt:Int→Int→Bool) (l:List Int) (hl:l.length≤1000) (hc:∀ x∈l,∀ y∈l,∃ d,cmp x y=some d∧decide (d<0)=lt x y) (hn:2*l.length+2≤n) :
    AZ n l 0 (l.length:Int) cmp=some (Eo lt l):=by
  unfold AZ
  have e1:IntKind.i64.wrap (0+1)=((1:Nat):Int):=by decide
  rw [e1]
  cases l with
  | nil =>
    obtain⟨m,rfl⟩:∃ m,n=m+1:=⟨n-1,by simp at hn; omega⟩
    rw [A2]
    simp [Eo]
  | cons x r =>
    have h1:=Mu cmp lt (x::r) hl hc n 1 (by omega) (by simp)
    have e2:Eo lt ((x::r).take 1)++(x::r).drop 1=x::r:=by simp [Eo,Ps,HV]
    rw [e2] at h1
    rw [h1]
    rfl
theorem HW (n:Nat) (cmp:Int→Int→Option Int) (lt:Int→Int→Bool) (l:List Int) (hl:l.length≤12) (hc:∀ x∈l,∀ y∈l,∃ d,cmp x y=some d∧decide (d<0)=lt x y) (hn:2*l.length+4≤n) :
    AF n l cmp=some (Eo lt l):=by
  unfold AF EX
  have w1:IntKind.u64.wrap (l.length:Int)=(l.length:Int):=by
    simp [IntKind.wrap,IntKind.bits,IntKind.signed]; omega
  rw [w1,if_pos ⟨by simp,by simp; omega⟩]
  obtain⟨m,rfl⟩:∃ m,n=m+2:=⟨n-2,by omega⟩
  simp only [Option.bind_some]
  rw [Bi,Bm]
  have w2:IntKind.i64.wrap ((l.length:Int)-0)=(l.length:Int):=by rw [He (by omega) (by omega)]; omega
  have c1:decide ((l.length:Int)≤12)=true:=by simp; omega
  rw [w2,c1,cond_true,OD m cmp lt l (by omega) hc (by omega)]
  rfl
theorem Pu {key:Int→Int} {l l':List Int} (hk:∀ a∈l,∀ b∈l,key a=key b→a=b) (h1:l.Pairwise fun a b=>key a≤key b) (h2:l'.Pairwise fun a b=>key a≤key b) (hp:l.Perm l'):l=l' :=
  List.Perm.eq_of_pairwise (le:=fun a b=>key a≤key b) (fun a b ha hb hab hba=>hk a ha b (hp.mem_iff.2 hb) (Int.le_antisymm hab hba)) h1 h2 hp
def Cy (key:Int→Int) (a b:Int):Bool:=decide (key a<key b)
theorem FI (key:Int→Int) (l:List Int):(Eo (Cy key) l).Pairwise fun a b=>key a≤key b :=
  Pt (le:=fun a b=>key a≤key b) (fun a b h=>by simp [Cy] at h; omega) (fun a b h=>by simp [Cy] at h; omega) (fun a b c h1 h2=>Int.le_trans h1 h2) l
end Go.Proofs.Ythcbemnflgjadaa
namespace Go.Proofs.Ythcbemnflgjadaa
open Go Go.RowKit
def Ai (n:Nat):List Int:=(List.range n).map fun(k:Nat)=>(k:Int)
theorem BT (n:Nat):Ai (n+1)=Ai n++[(n:Int)]:=by simp [Ai,List.range_succ]
theorem Bj (n:Nat):(Ai n).length=n:=by simp [Ai]
theorem Aq {n:Nat} {b:Int}:b∈Ai n↔0≤b∧b<n:=by
  unfold Ai
  rw [List.mem_map]
  constructor
  · rintro⟨k,hk,rfl⟩
    rw [List.mem_range] at hk
    omega
  · intro h
    exact⟨b.toNat,by rw [List.mem_range]; omega,by omega⟩
theorem B2 {y:Ag} {b:Int}:DT b 0 ((y.buses.length:Int)-1)=true↔b∈Ai y.buses.length:=by
  rw [AY,Aq]; omega
theorem CK:∀ n,(Ai n).Nodup
  | 0=>by simp [Ai]
  | n+1=>by
    rw [BT,List.nodup_append]
    refine⟨CK n,by simp,fun a ha b hb=>?_⟩
    rw [Aq] at ha
    simp at hb
    omega
def BY (y:Ag) (b:Int):Int:=(Ao y b).turn
def Mb (y:Ag) (f:Int→Bool):List Int:=(Ai y.buses.length).filter fun b=>!f b
def Bb (y:Ag) (f:Int→Bool):List Int:=Eo (Cy (BY y)) (Mb y f)
theorem Mv {y:Ag} {f:Int→Bool} {b:Int}:b∈Mb y f↔b∈Ai y.buses.length∧f b=false:=by
  unfold Mb
  rw [List.mem_filter]
  simp
theorem BM {y:Ag} {f:Int→Bool} {b:Int}:b∈Bb y f↔b∈Ai y.buses.length∧f b=false:=by
  unfold Bb
  rw [(D0 _ _).mem_iff,Mv]
theorem Pv (y:Ag) (f:Int→Bool):(Mb y f).length≤y.buses.length:=by
  unfold Mb
  exact Nat.le_trans (List.length_filter_le _ _) (by rw [Bj]; exact Nat.le_refl _)
theorem FJ (y:Ag) (f:Int→Bool):(Bb y f).length≤y.buses.length:=by
  unfold Bb
  rw [DC]
  exact Pv y f
theorem Hi (y:Ag) (f:Int→Bool):(Bb y f).Nodup:=by
  unfold Bb
  rw [(D0 _ _).nodup_iff]
  unfold Mb
  exact List.Pairwise.filter _ (CK _)
theorem L3 (y:Ag) (f:Int→Bool) (hb:y.buses.length≤8):∀ (n i:Nat),y.buses.length<n+i→i≤y.buses.length →
    Bz n y (As f) ((Ai i).filter fun b=>!f b) (i:Int)=some (Mb y f)
  | 0,i,h,hi=>by omega
  | n+1,i,h,hi=>by
    rw [Bz,B4]
    by_cases hx:i<y.buses.length
    · have h0:(0:Int)≤(i:Int):=by omega
      have h8:(i:Int)<8:=by omega
      simp only [hx,decide_true,cond_true,Hh h0 h8,GB _ h0 h8,Option.bind_some]
      have ih:=L3 y f hb n (i+1) (by omega) (by omega)
      rw [BT,List.filter_append] at ih
      rw [DB i (by omega)]
      have hlen:=List.length_filter_le (fun b=>!f b) (Ai i)
      rw [Bj] at hlen
      cases hf:f (i:Int) with
      | true =>
        simp only [Bool.not_true,cond_false]
        rw [← ih]
        simp [hf]
      | false =>
        simp only [Bool.not_false,cond_true]
        rw [ED _ _ (by simp; omega),Option.bind_some,← ih]
        simp [hf]
    · have:i=y.buses.length:=by omega
      subst this
      simp [Mb]
theorem RJ (n:Nat) {y:Ag} (hv:y.buses.all CD=true) {a b:Int} (ha:a∈Ai y.buses.length) (hb:b∈Ai y.buses.length) :
    ∃ d,B9 n a b y=some d∧decide (d<0)=Cy (BY y) a b:=by
  rw [← B2] at ha hb
  have h1:=CU hv ha
  have h2:=CU hv hb
  unfold B9
  rw [Hg y ha,Hg y hb]
  refine⟨_,rfl,?_⟩
  rw [He (by omega) (by omega)]
  unfold Cy BY
  by_cases h:(Ao y a).turn<(Ao y b).turn
  · rw [decide_eq_true h,decide_eq_true (by omega)]
  · rw [decide_eq_false h,decide_eq_false (by omega)]
theorem Pw (n:Nat) (y:Ag) (f:Int→Bool) (hb:y.buses.length≤8) (hv:y.buses.all CD=true) (hn:20≤n):CH n y (As f)=some (Bb y f):=by
  unfold CH
  have e1:=L3 y f hb n 0 (by omega) (by omega)
  rw [show((0:Nat):Int)=0 from rfl] at e1
  have hl:=Pv y f
  have e2:=HW n (fun y0 y1=>B9 n y0 y1 y) (Cy (BY y)) (Mb y f) (by omega) (fun a ha b hb=>RJ n hv (Mv.1 ha).1 (Mv.1 hb).1) (by omega)
  rw [show(Ai 0).filter (fun b=>!f b)=([]:List Int) from rfl] at e1
  rw [e1,Option.bind_some,e2]
  rfl
def Dw (m:Nat) (g:Int→Int):List Int:=(Ai m).map g
theorem IP (m:Nat) (g:Int→Int):(Dw m g).length=m:=by simp [Dw,Bj]
theorem OE {m:Nat} {g:Int→Int} {k:Nat} (h:k<m):(Dw m g)[k]? = some (g (k:Int)):=by
  unfold Dw Ai
  rw [List.getElem?_map,List.getElem?_map,List.getElem?_range h]
  rfl
theorem F9 {m:Nat} {g:Int→Int} {b:Int} (h:DT b 0 ((m:Int)-1)=true):B6 (Dw m g) b=some (g b):=by
  rw [AY] at h
  obtain⟨k,rfl⟩:=Int.eq_ofNat_of_zero_le h.1
  rw [RG,OE (by omega)]
theorem OF {m:Nat} {g:Int→Int} {l:List Int} (hl:l.length=m) (h:∀ k,k<m→l[k]? = some (g (k:Int))):l=Dw m g:=by
  apply List.ext_getElem?
  intro k
  rcases Nat.lt_or_ge k m with hk | hk
  · rw [h k hk,OE hk]
  · rw [List.getElem?_eq_none (by omega),List.getElem?_eq_none (by rw [IP]; omega)]
theorem JR {m:Nat} {g:Int→Int} {b v:Int} (h:DT b 0 ((m:Int)-1)=true):upd (Dw m g) b v=some (Dw m fun x=>if x=b then v else g x):=by
  rw [AY] at h
  obtain⟨k,rfl⟩:=Int.eq_ofNat_of_zero_le h.1
  rw [TO _ _ _ (by rw [IP]; omega)]
  congr 1
  refine OF (by rw [List.length_set,IP]) fun j hj=>?_
  by_cases hjk:j=k
  · subst hjk
    rw [List.getElem?_set_self (by rw [IP]; omega)]
    simp
  · rw [List.getElem?_set_ne (Ne.symm hjk),OE hj,if_neg (by omega)]
theorem HX (l:List Int):l=Dw l.length fun k=>l.getD k.toNat 0:=OF rfl fun k hk=>by
  rw [List.getElem?_eq_getElem hk]
  simp [List.getD_eq_getElem?_getD,List.getElem?_eq_getElem hk]
theorem Px (m:Nat):List.replicate m (0:Int)=Dw m fun _=>0:=OF (by simp) fun k hk=>by
  rw [List.getElem?_replicate,if_pos hk]
def AS (room:List Int) (k:Int):Int:=room.getD k.toNat 0
def Cw (room:List Int):List Int→List Int→Bool
  | _,[]=>true
  | pre,n::r=>DT n 0 ((room.length:Int)-1) && (decide ((pre.count n:Int)<AS room n) && Cw room (pre++[n]) r)
def Be (y:Ag) (l:List Int):Bool:=decide (l.length=y.buses.length) && Cw y.room [] l
theorem GE {room:List Int} (h:(room.all fun r=>DT r 0 8)=true) {k:Int} (hk:DT k 0 ((room.length:Int)-1)=true):0≤AS room k∧AS room k≤8:=by
  rw [AY] at hk
  have hl:k.toNat<room.length:=by omega
  unfold AS
  rw [List.getD_eq_getElem?_getD,List.getElem?_eq_getElem hl]
  exact AY.1 (List.all_eq_true.1 h _ (List.getElem_mem hl))
theorem DD (pre:List Int) (n k:Int):((pre++[n]).count k:Int)=(pre.count k:Int)+(if k=n then 1 else 0):=by
  rw [List.count_append,List.count_singleton]
  by_cases h:k=n
  · subst h; simp
  · have:(n == k)=false:=by
      cases hq:(n == k) with
      | false=>rfl
      | true=>rw [beq_iff_eq] at hq; exact absurd hq.symm h
    simp [h,this]
theorem L4 (room:List Int) (hr:(room.all fun r=>DT r 0 8)=true) (hm:room.length≤1000) (l:List Int) (hl:l.length≤1000):∀ (n i:Nat),l.length<n+i→i≤l.length→(∀ k,DT k 0 ((room.length:Int)-1)=true→((l.take i).count k:Int)≤AS room k) →
    ∃ r,BF n l (Dw room.length fun k=>AS room k-((l.take i).count k:Int)) (i:Int)=some r∧(if Cw room (l.take i) (l.drop i) then ∃ x,r=Ex.go x else r=Ex.ret false)
  | 0,i,h,hi,_=>by omega
  | n+1,i,h,hi,hc=>by
    rw [BF,B4]
    by_cases hx:i<l.length
    · simp only [hx,decide_true,cond_true,Dv _ _ hx,Option.bind_some,G9,IP]
      rw [He (x:=(room.length:Int)-1) (by omega) (by omega),B3 hx,Cw]
      cases h1:DT l[i] 0 ((room.length:Int)-1) with
      | false=>exact⟨_,rfl,by simp⟩
      | true =>
        have hk:=hc _ h1
        have hR:=GE hr h1
        simp only [Bool.not_true,cond_false,F9 h1,Option.bind_some]
        by_cases h2:((l.take i).count l[i]:Int)<AS room l[i]
        · have e0:(AS room l[i]-((l.take i).count l[i]:Int) == 0)=false:=by
            cases hq:(AS room l[i]-((l.take i).count l[i]:Int) == 0) with
            | false=>rfl
            | true=>rw [beq_iff_eq] at hq; omega
          rw [e0]
          simp only [cond_false,JR h1,Option.bind_some]
          rw [DB i (by omega),He (by omega) (by omega),decide_eq_true h2]
          have e1:l.take i++[l[i]]=l.take (i+1):=(List.take_succ_eq_append_getElem hx).symm
          have e2:(Dw room.length fun x=>if x=l[i] then AS room l[i]-((l.take i).count l[i]:Int)-1 else AS room x-((l.take i).count x:Int))=Dw room.length fun k=>AS room k-((l.take (i+1)).count k:Int):=by
            congr 1
            funext x
            rw [← e1,DD]
            by_cases hxe:x=l[i]
            · rw [if_pos hxe,if_pos hxe,hxe]; omega
            · rw [if_neg hxe,if_neg hxe]; omega
          rw [e1,e2]
          simp only [Bool.true_and]
          refine L4 room hr hm l hl n (i+1) (by omega) (by omega) fun k hkk=>?_
          rw [← e1,DD]
          have:=hc k hkk
          split
          · rename_i hke; rw [hke]; omega
          · omega
        · have e0:(AS room l[i]-((l.take i).count l[i]:Int) == 0)=true:=by rw [beq_iff_eq]; omega
          rw [e0,decide_eq_false h2]
          exact⟨_,rfl,by simp⟩
    · have:i=l.length:=by omega
      subst this
      exact⟨Ex.go _,by simp; rfl,by simp [Cw]⟩
theorem Mw (n:Nat) (y:Ag) (hr:(y.room.all fun r=>DT r 0 8)=true) (hm:y.room.length≤1000) (l:List Int) (hl:l.length≤1000) (hn:l.length<n):CG n y l=some (Be y l):=by
  unfold CG Be
  by_cases he:l.length=y.buses.length
  · rw [show((l.length:Int) != (y.buses.length:Int))=false by simp [he],cond_false,JP n _ hm,Option.bind_some]
    obtain⟨r,h1,h2⟩:=L4 y.room hr hm l hl n 0 (by omega) (by omega) (fun k hk=>by simp; exact(GE hr hk).1)
    have e1:(Dw y.room.length fun k=>AS y.room k-(((l.take 0).count k:Nat):Int))=y.room:=by
      refine Eq.trans ?_ (HX y.room).symm
      congr 1
      funext k
      simp [AS]
    rw [e1,show((0:Nat):Int)=0 from rfl] at h1
    rw [h1]
    simp only [List.take_zero,List.drop_zero] at h2
    split at h2
    · rename_i hq
      obtain⟨x,rfl⟩:=h2
      simp [Ex.bind,he,hq]
    · rename_i hq
      subst h2
      simp [Ex.bind,he,hq]
  · rw [show((l.length:Int) != (y.buses.length:Int))=true by simp; omega]
    simp [he]
theorem Ji (y:Ag) (hr:(y.room.all fun r=>DT r 0 8)=true) (hm:y.room.length≤1000) (l:List Int) (hl:l.length≤1000):∀ (n i:Nat),l.length<n+i→i≤l.length →
    ∃ r,CA n y l (Dw y.room.length fun k=>((l.take i).count k:Int)) (i:Int)=some r∧(if Cw y.room (l.take i) (l.drop i) then ∃ x,r=Ex.go x else r=Ex.ret false)
  | 0,i,h,hi=>by omega
  | n+1,i,h,hi=>by
    rw [CA,B4]
    by_cases hx:i<l.length
    · simp only [hx,decide_true,cond_true,Dv _ _ hx,Option.bind_some,G8]
      rw [He (x:=(y.room.length:Int)-1) (by omega) (by omega),B3 hx,Cw]
      cases h1:DT l[i] 0 ((y.room.length:Int)-1) with
      | false=>exact⟨_,rfl,by simp⟩
      | true =>
        have hR:=GE hr h1
        have hcl:(l.take i).count l[i]≤1000:=Nat.le_trans List.count_le_length (by rw [List.length_take]; omega)
        have er:B6 y.room l[i]=some (AS y.room l[i]):=by
          have:=F9 (g:=fun k=>y.room.getD k.toNat 0) h1
          rwa [← HX y.room] at this
        simp only [Bool.not_true,cond_false,F9 h1,JR h1,Option.bind_some,er,if_true]
        rw [DB i (by omega),He (by omega) (by omega)]
        have e1:l.take i++[l[i]]=l.take (i+1):=(List.take_succ_eq_append_getElem hx).symm
        have e2:(Dw y.room.length fun x=>if x=l[i] then((l.take i).count l[i]:Int)+1 else((l.take i).count x:Int))=Dw y.room.length fun k=>((l.take (i+1)).count k:Int):=by
          congr 1
          funext x
          rw [← e1,DD]
          by_cases hxe:x=l[i]
          · rw [if_pos hxe,if_pos hxe,hxe]
          · rw [if_neg hxe,if_neg hxe]; omega
        rw [e1,e2]
        by_cases h2:((l.take i).count l[i]:Int)<AS y.room l[i]
        · rw [decide_eq_true h2,decide_eq_false (show ¬ ((l.take i).count l[i]:Int)+1>AS y.room l[i] by omega)]
          simp only [cond_false,Bool.true_and]
          exact Ji y hr hm l hl n (i+1) (by omega) (by omega)
        · rw [decide_eq_false h2,decide_eq_true (show((l.take i).count l[i]:Int)+1>AS y.room l[i] by omega)]
          exact⟨_,rfl,by simp⟩
    · have:i=l.length:=by omega
      subst this
      exact⟨Ex.go _,by simp; rfl,by simp [Cw]⟩
theorem Mx (n:Nat) (y:Ag) (hr:(y.room.all fun r=>DT r 0 8)=true) (hm:y.room.length≤1000) (l:List Int) (hl:l.length≤1000) (hn:l.length<n):Fe n y l=some (Be y l):=by
  unfold Fe Be
  by_cases he:l.length=y.buses.length
  · rw [show((l.length:Int) != (y.buses.length:Int))=false by simp [he],cond_false,Uq _ _ (by omega),Option.bind_some]
    obtain⟨r,h1,h2⟩:=Ji y hr hm l hl n 0 (by omega) (by omega)
    have e1:(Dw y.room.length fun k=>(((l.take 0).count k:Nat):Int))=List.replicate y.room.length 0:=by
      rw [Px]
      congr 1
    rw [e1,show((0:Nat):Int)=0 from rfl] at h1
    rw [h1]
    simp only [List.take_zero,List.drop_zero] at h2
    split at h2
    · rename_i hq
      obtain⟨x,rfl⟩:=h2
      simp [Ex.bind,he,hq]
    · rename_i hq
      subst h2
      simp [Ex.bind,he,hq]
  · rw [show((l.length:Int) != (y.buses.length:Int))=true by simp; omega]
    simp [he]
end Go.Proofs.Ythcbemnflgjadaa
namespace Go.Proofs.Ythcbemnflgjadaa
open Go Go.RowKit
def GF (y:Ag):Int→List Int→Bool
  | _,[]=>true
  | last,b::r=>DT b 0 ((y.buses.length:Int)-1) && (decide (last<b) && GF y b r)
def Dx (y:Ag) (l:List Int):Bool:=GF y (-1) l && decide ((l.length:Int)≤y.broken)
theorem My (y:Ag) (hb:y.buses.length≤8) (l:List Int) (hl:l.length≤1000):∀ (n i:Nat)(last:Int),l.length<n+i→i≤l.length →
    ∃ r,BP n y l (i:Int) last (As (A7 (l.take i)))=some r∧(if GF y last (l.drop i) then r=Ex.go (As (A7 l)) else ∃ x,r=Ex.ret (x,false))
  | 0,i,last,h,hi=>by omega
  | n+1,i,last,h,hi=>by
    rw [BP,B4]
    by_cases hx:i<l.length
    · simp only [hx,decide_true,cond_true,Dv _ _ hx,Option.bind_some,Ly _ y _ (by omega)]
      rw [B3 hx,GF]
      cases h1:DT l[i] 0 ((y.buses.length:Int)-1) with
      | false=>exact⟨_,rfl,by simp⟩
      | true =>
        have h1':=AY.1 h1
        have h8:l[i]<8:=by omega
        by_cases h2:last<l[i]
        · simp only [Bool.not_true,cond_false,decide_eq_false (show ¬ l[i]≤last by omega),decide_eq_true h2,Hh h1'.1 h8,GC _ h1'.1 h8,Option.bind_some,Bool.true_and]
          rw [DB i (by omega)]
          have e1:l.take i++[l[i]]=l.take (i+1):=(List.take_succ_eq_append_getElem hx).symm
          have e2:(As fun x=>if x=l[i] then true else A7 (l.take i) x)=As (A7 (l.take (i+1))):=CJ fun b=>by rw [← e1,GD]
          rw [e2]
          exact My y hb l hl n (i+1) l[i] (by omega) (by omega)
        · rw [decide_eq_false h2]
          simp only [Bool.not_true,cond_false,decide_eq_true (show l[i]≤last by omega),Option.bind_some,cond_true]
          exact⟨_,rfl,by simp⟩
    · have:i=l.length:=by omega
      subst this
      exact⟨Ex.go _,by simp; rfl,by simp [GF]⟩
theorem Th (n:Nat) (y:Ag) (hb:y.buses.length≤8) (l:List Int) (hl:l.length≤1000) (hn:l.length<n) :
    ∃ x,DH n y l=some (x,Dx y l)∧(Dx y l=true→x=As (A7 l)):=by
  unfold DH Dx
  obtain⟨r,h1,h2⟩:=My y hb l hl n 0 (-1) (by omega) (by omega)
  rw [show((0:Nat):Int)=0 from rfl,List.take_zero] at h1
  rw [List.drop_zero] at h2
  rw [Rm,h1,Option.bind_some]
  split at h2
  · rename_i hq
    subst h2
    exact⟨_,by rw [hq]; rfl,fun _=>rfl⟩
  · rename_i hq
    obtain⟨x,rfl⟩:=h2
    exact⟨x,by simp [Ex.bind,hq],fun h=>by simp [hq] at h⟩
def J4 (l:List Int) (i:Nat):Int:=if i=0 then -1 else l.getD (i-1) 0
theorem HY (y:Ag) (hb:y.buses.length≤1000) (l:List Int) (hl:l.length≤1000):∀ (n i:Nat),l.length<n+i→i≤l.length →
    BX n y l (i:Int)=some (if GF y (J4 l i) (l.drop i) then Ex.go () else Ex.ret false)
  | 0,i,h,hi=>by omega
  | n+1,i,h,hi=>by
    rw [BX,B4]
    by_cases hx:i<l.length
    · simp only [hx,decide_true,cond_true,Dv _ _ hx,Option.bind_some,G8]
      rw [He (x:=(y.buses.length:Int)-1) (by omega) (by omega),B3 hx,GF,DB i (by omega)]
      cases h1:DT l[i] 0 ((y.buses.length:Int)-1) with
      | false=>simp
      | true =>
        have h1':=AY.1 h1
        have ih:=HY y hb l hl n (i+1) (by omega) (by omega)
        have hla:J4 l (i+1)=l[i]:=by
          unfold J4
          rw [if_neg (by omega),Nat.add_sub_cancel,List.getD_eq_getElem?_getD,List.getElem?_eq_getElem hx]
          rfl
        rw [hla] at ih
        simp only [Bool.not_true,cond_false]
        cases i with
        | zero =>
          have:J4 l 0<l[0]:=by
            show(-1:Int)<_
            omega
          rw [decide_eq_true this]
          simpa using ih
        | succ j =>
          have hj:j<l.length:=by omega
          have hlj:J4 l (j+1)=l[j]:=by
            unfold J4
            rw [if_neg (by omega),Nat.add_sub_cancel,List.getD_eq_getElem?_getD,List.getElem?_eq_getElem hj]
            rfl
          have w1:IntKind.i64.wrap (((j+1:Nat):Int)-1)=(j:Int):=by rw [He (by omega) (by omega)]; omega
          rw [decide_eq_true (show((j+1:Nat):Int)>0 by omega),w1,Dv _ _ hj,hlj]
          simp only [cond_true,Option.bind_some,ih]
          by_cases h2:l[j]<l[j+1]
          · rw [decide_eq_true h2,decide_eq_false (show ¬ l[j+1]≤l[j] by omega)]
            simp
          · rw [decide_eq_false h2,decide_eq_true (show l[j+1]≤l[j] by omega)]
            simp
    · have:i=l.length:=by omega
      subst this
      simp [GF]
theorem Py (n:Nat) (y:Ag) (hb:y.buses.length≤1000) (l:List Int) (hl:l.length≤1000) (hn:l.length<n):DX n y l=some (Dx y l):=by
  unfold DX Dx
  have e1:=HY y hb l hl n 0 (by omega) (by omega)
  rw [show((0:Nat):Int)=0 from rfl,List.drop_zero,show J4 l 0=-1 from rfl] at e1
  rw [e1,Option.bind_some]
  cases GF y (-1) l <;> simp [Ex.bind]
def JS (y:Ag) (lanes order broken:List Int):Bool:=Be y lanes && (Ei y order && Dx y broken)
def E2 (y:Ag) (lanes order broken:List Int):Int:=if Bc y=0 then(if JS y lanes order broken then 0 else 2) else Bc y
def DU (y:Ag) (lanes order broken:List Int):Ch:=⟨y,lanes,GA (CE order),As (A7 broken)⟩
theorem Ss (n:Nat) (y:Ag) (lanes order broken:List Int) (hr:y.room.length≤100) (hb:y.buses.length≤100) (h1:lanes.length≤100) (h2:order.length≤100) (h3:broken.length≤100) (hn:200≤n) :
    ∃ x,Dy n y lanes order broken=some (x,E2 y lanes order broken)∧(E2 y lanes order broken=0→x=DU y lanes order broken):=by
  unfold Dy E2
  rw [HR n y (by omega) (by omega) (by omega) (by omega),Option.bind_some]
  by_cases hf:Bc y=0
  · obtain⟨v1,v0,v2,v3,v4,v5,v6⟩:=Cb hf
    obtain⟨x1,p1,p2⟩:=Lz n y v2 v5 order (by omega) (by omega)
    obtain⟨x2,q1,q2⟩:=Th n y v2 broken (by omega) (by omega)
    rw [hf,p1,q1,Mw n y v4 (by omega) lanes (by omega) (by omega)]
    simp only [Option.bind_some,bne_self_eq_false,cond_false,if_true]
    unfold JS
    cases a1:Ei y order with
    | false=>exact⟨_,by simp; rfl,fun h=>by simp at h⟩
    | true =>
      cases a2:Dx y broken with
      | false=>exact⟨_,by simp; rfl,fun h=>by simp at h⟩
      | true =>
        cases a3:Be y lanes with
        | false=>exact⟨_,by simp; rfl,fun h=>by simp at h⟩
        | true=>exact⟨_,by simp; rfl,fun _=>by rw [p2 a1,q2 a2]; rfl⟩
  · have hn:(Bc y != 0)=true:=by simp [hf]
    rw [hn,if_neg hf]
    exact⟨_,rfl,fun h=>absurd h hf⟩
theorem JT {σ:Type} (step:σ→Int→Option σ) (q:List Int) (hq:q.length≤1000):∀ (n i:Nat)(s:σ),q.length<n+i→i≤q.length →
    AR n (fun s x=>(step s x).bind fun s1=>some (s1,true)) q (i:Int) s=((q.drop i).foldlM step s).map Ex.go
  | 0,i,s,h,hi=>by omega
  | n+1,i,s,h,hi=>by
    rw [AR,B4]
    by_cases hx:i<q.length
    · simp only [hx,decide_true,cond_true,Dv _ _ hx,Option.bind_some]
      rw [DB i (by omega),B3 hx,List.foldlM_cons]
      cases hs:step s q[i] with
      | none=>rfl
      | some s' =>
        simp only [Option.bind_some,Bool.not_true,cond_false]
        rw [JT step q hq n (i+1) s' (by omega) (by omega)]
        rfl
    · have:i=q.length:=by omega
      subst this
      simp
theorem NQ {σ:Type} (n:Nat) (step:σ→Int→Option σ) (s:σ) (q:List Int) (hq:q.length≤1000) (hn:q.length<n) :
    Bw n (fun s x=>(step s x).bind fun s1=>some (s1,true)) s q=q.foldlM step s:=by
  unfold Bw
  have e1:=JT step q hq n 0 s (by omega) (by omega)
  rw [show((0:Nat):Int)=0 from rfl,List.drop_zero] at e1
  rw [e1]
  cases q.foldlM step s <;> rfl
def AC (lanes:List Int) (b:Int):Int:=lanes.getD b.toNat 0
theorem JU (lanes:List Int) {b:Int} (h0:0≤b) (h:b<lanes.length):B6 lanes b=some (AC lanes b):=by
  obtain⟨k,rfl⟩:=Int.eq_ofNat_of_zero_le h0
  rw [Dv _ _ (by omega)]
  unfold AC
  simp [List.getD_eq_getElem?_getD,List.getElem?_eq_getElem (show k<lanes.length by omega)]
def Pz (lanes order:List Int) (c b:Int):Bool:=AC lanes c == AC lanes b && decide (CE order c<CE order b)
theorem RK (n:Nat) (y:Ag) (lanes order broken:List Int) (hl:lanes.length=y.buses.length) (hb:y.buses.length≤8) {c b:Int} (hc:c∈Ai y.buses.length) (hbb:b∈Ai y.buses.length) :
    Ct n (DU y lanes order broken) c b=some (Pz lanes order c b):=by
  rw [Aq] at hc hbb
  unfold Ct DU Pz
  rw [JU lanes hc.1 (by omega),JU lanes hbb.1 (by omega)]
  simp only [Option.bind_some,Hh hc.1 (by omega),Hh hbb.1 (by omega),Mm _ hc.1 (show c<8 by omega),Mm _ hbb.1 (show b<8 by omega)]
  cases AC lanes c == AC lanes b <;> simp
theorem Mz (l:List Int) (b:Int):0≤CE l b∧CE l b≤l.length:=by
  unfold CE
  split
  · have:=List.idxOf_le_length (a:=b) (l:=l)
    omega
  · omega
def DE (y:Ag) (lanes order:List Int) (g:Int→Bool) (b:Int) (k:Nat):List Int:=(Ai k).filter fun c=>!g c && Pz lanes order c b
theorem Jj (y:Ag) (lanes order broken:List Int) (hl:lanes.length=y.buses.length) (hb:y.buses.length≤8) (g:Int→Bool) (b:Int) (hbb:b∈Ai y.buses.length):∀ (n i:Nat),y.buses.length<n+i→i≤y.buses.length →
    AH n (DU y lanes order broken) b (DE y lanes order g b i) (i:Int) (As fun x=>g x || A7 (DE y lanes order g b i) x)=some (DE y lanes order g b y.buses.length,As fun x=>g x || A7 (DE y lanes order g b y.buses.length) x)
  | 0,i,h,hi=>by omega
  | n+1,i,h,hi=>by
    rw [AH]
    rw [show(DU y lanes order broken).yard=y from rfl,B4]
    by_cases hx:i<y.buses.length
    · have h0:(0:Int)≤(i:Int):=by omega
      have h8:(i:Int)<8:=by omega
      have hni:A7 (DE y lanes order g b i) (i:Int)=false:=by
        cases hq:A7 (DE y lanes order g b i) (i:Int) with
        | false=>rfl
        | true =>
          have hm:(i:Int)∈DE y lanes order g b i:=by simpa [A7] using hq
          have:=(List.mem_filter.1 hm).1
          rw [Aq] at this
          omega
      have ih:=Jj y lanes order broken hl hb g b hbb n (i+1) (by omega) (by omega)
      have hs:DE y lanes order g b (i+1)=if !g (i:Int) && Pz lanes order (i:Int) b then DE y lanes order g b i++[(i:Int)] else DE y lanes order g b i:=by
        unfold DE
        rw [BT,List.filter_append]
        cases hq:(!g (i:Int) && Pz lanes order (i:Int) b) <;> simp [hq]
      simp only [hx,decide_true,cond_true,Hh h0 h8,GB _ h0 h8,Option.bind_some,hni,Bool.or_false]
      rw [DB i (by omega)]
      have hlen:(DE y lanes order g b i).length≤i:=by
        unfold DE
        exact Nat.le_trans (List.length_filter_le _ _) (by rw [Bj]; exact Nat.le_refl _)
      have hbf:=RK n y lanes order broken hl hb (c:=(i:Int)) (b:=b) (by rw [Aq]; omega) hbb
      cases hg:g (i:Int) with
      | true =>
        rw [hg] at hs
        simp only [Bool.not_true,Bool.false_and,Bool.false_eq_true,if_false] at hs
        rw [hs] at ih
        simpa using ih
      | false =>
        rw [hg] at hs
        simp only [Bool.not_false,Bool.true_and] at hs
        simp only [Bool.not_false,cond_true,hbf,Option.bind_some]
        cases hq:Pz lanes order (i:Int) b with
        | false =>
          rw [hq] at hs
          simp only [Bool.false_eq_true,if_false] at hs
          rw [hs] at ih
          simpa using ih
        | true =>
          rw [hq] at hs
          simp only [if_true] at hs
          simp only [cond_true]
          rw [ED _ _ (by simp; omega)]
          simp only [Option.bind_some,GC _ h0 h8]
          have e2:(As fun x=>if x=(i:Int) then true else(g x || A7 (DE y lanes order g b i) x))=As fun x=>g x || A7 (DE y lanes order g b (i+1)) x:=CJ fun x=>by
            rw [hs,GD]
            split <;> simp
          rw [e2,← hs]
          exact ih
    · have:i=y.buses.length:=by omega
      subst this
      simp
def Fp (y:Ag) (lanes order:List Int) (g:Int→Bool) (b:Int):List Int:=Eo (Cy (CE order)) (DE y lanes order g b y.buses.length)
theorem RL {l l':List Int} (h:l.Perm l') (x:Int):A7 l x=A7 l' x:=by
  unfold A7
  rw [Bool.eq_iff_iff]
  simp [h.mem_iff]
def Jk (y:Ag) (lanes order:List Int) (g:Int→Bool) (b:Int):Int→Bool:=fun x=>if x=b then true else(g x || A7 (Fp y lanes order g b) x)
def Cc (y:Ag) (lanes order:List Int):(Int→Bool)→List Int→List (List Int)
  | _,[]=>[]
  | g,b::r=>Fp y lanes order g b::Cc y lanes order (Jk y lanes order g b) r
theorem Hj (y:Ag) (lanes order:List Int):∀ (ts:List Int)(g:Int→Bool),(Cc y lanes order g ts).length=ts.length
  | [],_=>rfl
  | b::r,g=>by rw [Cc,List.length_cons,List.length_cons,Hj]
theorem P0 (n:Nat) (y:Ag) (lanes order broken:List Int) (hb:y.buses.length≤8) (ho:order.length≤1000) {c d:Int} (hc:c∈Ai y.buses.length) (hd:d∈Ai y.buses.length) :
    ∃ e,AP n c d (DU y lanes order broken)=some e∧decide (e<0)=Cy (CE order) c d:=by
  rw [Aq] at hc hd
  unfold AP DU
  simp only [Hh hc.1 (show c<8 by omega),Hh hd.1 (show d<8 by omega),Mm _ hc.1 (show c<8 by omega),Mm _ hd.1 (show d<8 by omega),Option.bind_some]
  refine⟨_,rfl,?_⟩
  have h1:=Mz order c
  have h2:=Mz order d
  rw [He (by omega) (by omega)]
  unfold Cy
  by_cases h:CE order c<CE order d
  · rw [decide_eq_true h,decide_eq_true (by omega)]
  · rw [decide_eq_false h,decide_eq_false (by omega)]
theorem KS {y:Ag} {lanes order:List Int} {g:Int→Bool} {b:Int} {k:Nat} {c:Int}:c∈DE y lanes order g b k↔c∈Ai k∧g c=false∧Pz lanes order c b=true:=by
  unfold DE
  rw [List.mem_filter]
  simp
theorem J5 {y:Ag} {lanes order:List Int} {g:Int→Bool} {b:Int} {c:Int}:c∈Fp y lanes order g b↔c∈Ai y.buses.length∧g c=false∧Pz lanes order c b=true:=by
  unfold Fp
  rw [(D0 _ _).mem_iff,KS]
theorem RM (y:Ag) (lanes order:List Int) (g:Int→Bool) (b:Int) (k:Nat):(DE y lanes order g b k).length≤k:=by
  unfold DE
  exact Nat.le_trans (List.length_filter_le _ _) (by rw [Bj]; exact Nat.le_refl _)
theorem JV (n:Nat) (y:Ag) (lanes order broken:List Int) (hl:lanes.length=y.buses.length) (hb:y.buses.length≤8) (ho:order.length≤1000) (hn:30≤n)
    (step:(List (List Int))×Ar→Int→Option ((List (List Int))×Ar))
    (hstep:step=fun s x15=>((AH n (DU y lanes order broken) x15 ([]:List Int) 0 s.2).bind fun o_104 =>
      ((AF n o_104.1 (fun(y0:Int)(y1:Int)=>AP n y0 y1 (DU y lanes order broken))).bind fun x42 =>
      ((Jh 8 x15).bind fun x44=>((Ar.setI o_104.2 x15 true).bind fun u_233=>((LH s.1 ([x42]:List (List Int))).bind fun x48=>some (x48,u_233)))))) ) :
    ∀ (ts:List Int)(out:List (List Int))(g:Int→Bool),(∀ b∈ts,b∈Ai y.buses.length)→out.length+ts.length≤1000→∃ u,ts.foldlM step (out,As g)=some (out++Cc y lanes order g ts,u)
  | [],out,g,_,_=>⟨As g,by simp [Cc]⟩
  | b::r,out,g,h,hle=>by
    have hbb:=h b (by simp)
    have hbr:=Aq.1 hbb
    have e1:=Jj y lanes order broken hl hb g b hbb n 0 (by omega) (by omega)
    rw [show((0:Nat):Int)=0 from rfl,show DE y lanes order g b 0=[] from rfl,show(As fun x=>g x || A7 [] x)=As g from CJ fun x=>by simp [A7]] at e1
    have hlen:=RM y lanes order g b y.buses.length
    have e2:=HW n (fun y0 y1=>AP n y0 y1 (DU y lanes order broken)) (Cy (CE order)) (DE y lanes order g b y.buses.length) (by omega)
      (fun c hc d hd=>P0 n y lanes order broken hb ho (KS.1 hc).1 (KS.1 hd).1) (by omega)
    have e3:(As fun x=>if x=b then true else(g x || A7 (DE y lanes order g b y.buses.length) x))=As (Jk y lanes order g b):=CJ fun x=>by
      unfold Jk Fp
      rw [RL (D0 _ _)]
    have hs:step (out,As g) b=some (out++[Fp y lanes order g b],As (Jk y lanes order g b)):=by
      rw [hstep]
      simp only [e1,Option.bind_some,e2,Hh hbr.1 (show b<8 by omega),GC _ hbr.1 (show b<8 by omega),e3]
      rw [ED _ _ (by simp at hle ⊢; omega)]
      rfl
    obtain⟨u,ih⟩:=JV n y lanes order broken hl hb ho hn step hstep r (out++[Fp y lanes order g b]) (Jk y lanes order g b) (fun z hz=>h z (by simp [hz])) (by simp at hle ⊢; omega)
    refine⟨u,?_⟩
    rw [List.foldlM_cons,hs]
    show(r.foldlM step (out++[Fp y lanes order g b],As (Jk y lanes order g b)))=_
    rw [ih,Cc,List.append_assoc]
    rfl
theorem QG (n:Nat) (y:Ag) (lanes order broken:List Int) (hl:lanes.length=y.buses.length) (hb:y.buses.length≤8) (hv:y.buses.all CD=true) (ho:order.length≤1000) (hn:30≤n) :
    Cg n (DU y lanes order broken)=some (Cc y lanes order (fun _=>false) (Bb y (A7 broken))):=by
  unfold Cg
  rw [show(DU y lanes order broken).yard=y from rfl,show(DU y lanes order broken).broken=As (A7 broken) from rfl,Pw n y _ hb hv (by omega),Option.bind_some]
  have hlen:=FJ y (A7 broken)
  obtain⟨u,h1⟩:=JV n y lanes order broken hl hb ho hn _ rfl (Bb y (A7 broken)) [] (fun _=>false) (fun b hbm=>(BM.1 hbm).1) (by simp; omega)
  have h2:=NQ n _ (([]:List (List Int)),As fun _=>false) (Bb y (A7 broken)) (by omega) (by omega) |>.trans h1
  rw [show(Ar.mk false false false false false false false false)=As (fun _=>false) from rfl]
  rw [h2]
  rfl
end Go.Proofs.Ythcbemnflgjadaa
namespace Go.Proofs.Ythcbemnflgjadaa
open Go Go.RowKit
theorem M0 (y:Ag):∀ (l pre:List Int),pre.Nodup→HT y pre l=true→(pre++l).Nodup∧∀ b∈l,b∈Ai y.buses.length
  | [],pre,hp,_=>by simpa using hp
  | b::r,pre,hp,h=>by
    unfold HT Pr at h
    simp only [Bool.and_eq_true,Bool.not_eq_true',Bool.or_eq_false_iff] at h
    obtain⟨⟨h1,h2,_⟩,h4⟩:=h
    have hb:b ∉ pre:=by simpa using h2
    have hp':(pre++[b]).Nodup:=by
      rw [List.nodup_append]
      refine⟨hp,by simp,fun a ha c hc=>?_⟩
      simp at hc
      rintro rfl
      exact hb (hc▸ha)
    obtain⟨q1,q2⟩:=M0 y r (pre++[b]) hp' h4
    refine⟨by simpa using q1,fun c hc=>?_⟩
    rcases List.mem_cons.1 hc with rfl | hc
    · exact B2.1 h1
    · exact q2 c hc
theorem QH:∀ (l m:List Int),l.Nodup→(∀ x∈l,x∈m)→m.length≤l.length→∀ x∈m,x∈l
  | [],m,_,_,hl,x,hx=>by
    have:m=[]:=List.eq_nil_of_length_eq_zero (by simpa using hl)
    rw [this] at hx
    simp at hx
  | a::l,m,hn,hs,hl,x,hx=>by
    rw [List.nodup_cons] at hn
    by_cases hxa:x=a
    · simp [hxa]
    · have ha:a∈m:=hs a (by simp)
      refine List.mem_cons_of_mem _ (QH l (m.erase a) hn.2 (fun z hz=>?_) ?_ x ((List.mem_erase_of_ne hxa).2 hx))
      · have hza:z≠a:=fun h=>hn.1 (h▸hz)
        exact(List.mem_erase_of_ne hza).2 (hs z (by simp [hz]))
      · rw [List.length_erase_of_mem ha]
        simp at hl
        omega
structure OG (y:Ag) (order:List Int):Prop where
  nd:order.Nodup
  len:order.length=y.buses.length
  mem:∀ b,b∈order↔b∈Ai y.buses.length
theorem EK {y:Ag} {order:List Int} (h:Ei y order=true):OG y order:=by
  unfold Ei at h
  simp only [Bool.and_eq_true,decide_eq_true_eq] at h
  obtain⟨h1,h2⟩:=M0 y order [] List.nodup_nil h.2
  rw [List.nil_append] at h1
  exact⟨h1,h.1,fun b=>⟨h2 b,QH order (Ai y.buses.length) h1 h2 (by rw [Bj,h.1]; exact Nat.le_refl _) b⟩⟩
theorem P1 {l:List Int} {a b:Int} (ha:a∈l) (hb:b∈l) (h:CE l a=CE l b):a=b:=by
  unfold CE at h
  simp only [List.contains_iff_mem,ha,hb,if_true] at h
  have h':l.idxOf a=l.idxOf b:=by omega
  have q1:=List.idxOf_lt_length_iff.2 ha
  have q2:=List.idxOf_lt_length_iff.2 hb
  have e1:=List.getElem_idxOf q1
  have e2:=List.getElem_idxOf q2
  rw [← e1,← e2]
  congr 1
end Go.Proofs.Ythcbemnflgjadaa
namespace Go.Proofs.Ythcbemnflgjadaa
open Go Go.RowKit
theorem JW (m:List (List Int)) (hm:m.length≤1000) (hs:m.flatten.length≤1000000):∀ (n i:Nat),m.length<n+i→i≤m.length →
    AV n m (i:Int) ((m.take i).flatten.length:Int)=some (m.flatten.length:Int)
  | 0,i,h,hi=>by omega
  | n+1,i,h,hi=>by
    rw [AV,B4]
    by_cases hx:i<m.length
    · have e1:(m.take (i+1)).flatten.length=(m.take i).flatten.length+m[i].length:=by
        rw [List.take_succ_eq_append_getElem hx,List.flatten_append,List.length_append]
        simp
      have hle:(m.take (i+1)).flatten.length≤m.flatten.length:=by
        have:=List.take_append_drop (i+1) m
        have h2:=congrArg List.flatten this
        rw [List.flatten_append] at h2
        rw [← h2,List.length_append]
        omega
      simp only [hx,decide_true,cond_true,Dv _ _ hx,Option.bind_some]
      rw [DB i (by omega),He (by omega) (by omega),show((m.take i).flatten.length:Int)+(m[i].length:Int)=((m.take (i+1)).flatten.length:Int) by omega]
      rw [show decide (((m.take (i+1)).flatten.length:Int)<0)=false from decide_eq_false (by omega),cond_false]
      exact JW m hm hs n (i+1) (by omega) (by omega)
    · have:i=m.length:=by omega
      subst this
      simp
theorem JX (m:List (List Int)) (hm:m.length≤1000) (hs:m.flatten.length≤1000000):∀ (n i:Nat),m.length<n+i→i≤m.length →
    AW n m (m.take i).flatten (i:Int)=some m.flatten
  | 0,i,h,hi=>by omega
  | n+1,i,h,hi=>by
    rw [AW,B4]
    by_cases hx:i<m.length
    · have e1:(m.take (i+1)).flatten=(m.take i).flatten++m[i]:=by
        rw [List.take_succ_eq_append_getElem hx,List.flatten_append]
        simp
      have hle:(m.take (i+1)).flatten.length≤m.flatten.length:=by
        have:=List.take_append_drop (i+1) m
        have h2:=congrArg List.flatten this
        rw [List.flatten_append] at h2
        rw [← h2,List.length_append]
        omega
      simp only [hx,decide_true,cond_true,Dv _ _ hx,Option.bind_some]
      rw [ED _ _ (by rw [e1,List.length_append] at hle; omega),Option.bind_some,DB i (by omega),← e1]
      exact JX m hm hs n (i+1) (by omega) (by omega)
    · have:i=m.length:=by omega
      subst this
      simp
theorem RN (n:Nat) (m:List (List Int)) (hm:m.length≤1000) (hs:m.flatten.length≤1000000) (hn:m.length<n):BC n m=some m.flatten:=by
  unfold BC
  have e1:=JW m hm hs n 0 (by omega) (by omega)
  have e2:=JX m hm hs n 0 (by omega) (by omega)
  simp only [List.take_zero,List.flatten_nil,List.length_nil] at e1 e2
  rw [show((0:Nat):Int)=0 from rfl] at e1 e2
  rw [e1,Option.bind_some]
  unfold R8
  rw [if_pos ⟨by omega,by omega⟩,Option.bind_some,e2]
  rfl
theorem Jl (y:Ag) (lanes order:List Int):∀ (ts:List Int)(g:Int→Bool),(Cc y lanes order g ts).flatten.Nodup∧∀ c∈(Cc y lanes order g ts).flatten,g c=false∧c∈Ai y.buses.length
  | [],g=>by simp [Cc]
  | b::r,g=>by
    obtain⟨h1,h2⟩:=Jl y lanes order r (Jk y lanes order g b)
    rw [Cc,List.flatten_cons]
    have hg:∀ c∈(Cc y lanes order (Jk y lanes order g b) r).flatten,c ∉ Fp y lanes order g b∧g c=false∧c∈Ai y.buses.length:=fun c hc=>by
      obtain⟨q1,q2⟩:=h2 c hc
      unfold Jk at q1
      split at q1
      · cases q1
      · simp only [Bool.or_eq_false_iff] at q1
        exact⟨by simpa [A7] using q1.2,q1.1,q2⟩
    refine⟨?_,fun c hc=>?_⟩
    · rw [List.nodup_append]
      refine⟨?_,h1,fun c hc d hd=>?_⟩
      · unfold Fp
        rw [(D0 _ _).nodup_iff]
        exact List.Pairwise.filter _ (CK _)
      · rintro rfl
        exact(hg c hd).1 hc
    · rcases List.mem_append.1 hc with hc | hc
      · have:=J5.1 hc
        exact⟨this.2.1,this.1⟩
      · exact(hg c hc).2
def IQ (y:Ag) (lanes order broken:List Int):List (List Int):=Cc y lanes order (fun _=>false) (Bb y (A7 broken))
def CV (y:Ag) (lanes order broken:List Int):List Int:=(Ai y.buses.length).filter (A7 (IQ y lanes order broken).flatten)
theorem Jm:∀ n,(Ai n).Pairwise (·≤·)
  | 0=>by simp [Ai]
  | n+1=>by
    rw [BT,List.pairwise_append]
    refine⟨Jm n,by simp,fun a ha b hb=>?_⟩
    rw [Aq] at ha
    simp at hb
    omega
theorem M1 {y:Ag} {m:List Int} (hn:m.Nodup) (hm:∀ c∈m,c∈Ai y.buses.length):m.length≤y.buses.length:=by
  rcases Nat.lt_or_ge y.buses.length m.length with h | h
  · exfalso
    have h2:=QH (m.take y.buses.length) (Ai y.buses.length) (List.Pairwise.sublist (List.take_sublist _ _) hn) (fun x hx=>hm x (List.mem_of_mem_take hx)) (by rw [Bj,List.length_take]; omega)
    have h3:=hm _ (List.getElem_mem h)
    have h4:=h2 _ h3
    have h5:(m.take y.buses.length++m.drop y.buses.length).Nodup:=by rw [List.take_append_drop]; exact hn
    rw [List.nodup_append] at h5
    exact h5.2.2 _ h4 m[y.buses.length] (by rw [B3 h]; exact List.mem_cons_self) rfl
  · exact h
theorem P2 {y:Ag} {m:List Int} (hn:m.Nodup) (hm:∀ c∈m,c∈Ai y.buses.length) (hb:y.buses.length≤1000):Nh m=some ((Ai y.buses.length).filter (A7 m)):=by
  refine Po ?_ ?_ ?_
  · refine(List.perm_ext_iff_of_nodup hn (List.Pairwise.filter _ (CK _))).2 fun c=>?_
    rw [List.mem_filter]
    constructor
    · exact fun hc=>⟨hm c hc,by simpa [A7] using hc⟩
    · exact fun hc=>by simpa [A7] using hc.2
  · exact List.Pairwise.filter _ (Jm _)
  · have:=M1 hn hm
    omega
theorem RO (n:Nat) (y:Ag) (lanes order broken:List Int) (hr:y.room.length≤100) (hb:y.buses.length≤100) (h1:lanes.length≤100) (h2:order.length≤100) (h3:broken.length≤100) (hn:200≤n) :
    C1 n y lanes order broken=some (if E2 y lanes order broken=0 then CV y lanes order broken else [],E2 y lanes order broken):=by
  unfold C1
  obtain⟨x,e1,e2⟩:=Ss n y lanes order broken hr hb h1 h2 h3 hn
  rw [e1,Option.bind_some]
  by_cases ha:E2 y lanes order broken=0
  · have hf:Bc y=0:=by
      unfold E2 at ha
      split at ha
      · assumption
      · exact ha
    obtain⟨v1,v0,v2,v3,v4,v5,v6⟩:=Cb hf
    have hok:JS y lanes order broken=true:=by
      unfold E2 at ha
      rw [if_pos hf] at ha
      split at ha
      · assumption
      · omega
    unfold JS at hok
    simp only [Bool.and_eq_true] at hok
    have hll:lanes.length=y.buses.length:=by have:=hok.1; unfold Be at this; simp at this; exact this.1
    rw [e2 ha,ha,bne_self_eq_false,cond_false,QG n y lanes order broken hll v2 v5 (by omega) (by omega),Option.bind_some]
    obtain⟨s1,s2⟩:=Jl y lanes order (Bb y (A7 broken)) fun _=>false
    have hfl:=M1 s1 (fun c hc=>(s2 c hc).2)
    have htl:=FJ y (A7 broken)
    rw [RN n _ (by rw [Hj]; omega) (by omega) (by rw [Hj]; omega),Option.bind_some,P2 s1 (fun c hc=>(s2 c hc).2) (by omega)]
    rfl
  · have hne:(E2 y lanes order broken != 0)=true:=by simp [ha]
    rw [hne,cond_true,if_neg ha]
theorem Ur (l:List Int) (h:l.length≤15):decide ((l.length:Int)>15)=false:=decide_eq_false (by omega)
theorem Ug (l:List Int) (h : ¬ l.length≤15):decide ((l.length:Int)>15)=true:=decide_eq_true (by omega)
end Go.Proofs.Ythcbemnflgjadaa
namespace Go.Proofs.Ythcbemnflgjadaa
open Go Go.RowKit
def St (words:List (IK .u16)):Prop:=∀ x∈words,0≤x.n∧x.n≤65535
def wd (words:List (IK .u16)) (k:Int):Int:=if words.length=0 then 0 else(words.getD (Int.tmod k (words.length:Int)).toNat ⟨0⟩).n
theorem Ep {k m:Int} (hk:0≤k) (hm:0<m):0≤Int.tmod k m∧Int.tmod k m<m:=by
  rw [Int.tmod_eq_emod_of_nonneg hk]
  exact⟨Int.emod_nonneg _ (by omega),Int.emod_lt_of_pos _ hm⟩
theorem Rn {b:Int} (h:b≠0):nz b=some ():=by unfold nz; rw [if_neg h]
theorem Mn (n:Nat) (words:List (IK .u16)) (hw:St words) (k:Int) (hk:0≤k):Ff n words k=some (wd words k):=by
  unfold Ff wd
  by_cases h:words.length=0
  · simp [h]
  · have hm:(0:Int)<(words.length:Int):=by omega
    obtain⟨h1,h2⟩:=Ep hk hm
    have e0:((words.length:Int) == 0)=false:=by
      cases hq:((words.length:Int) == 0) with
      | false=>rfl
      | true=>rw [beq_iff_eq] at hq; omega
    rw [e0,cond_false,Rn (by omega),Option.bind_some,if_neg h]
    obtain⟨j,hj⟩:=Int.eq_ofNat_of_zero_le h1
    rw [hj,Dv _ _ (by omega),Option.bind_some]
    have hjl:j<words.length:=by omega
    have:=hw _ (List.getElem_mem hjl)
    rw [He (by omega) (by omega)]
    simp [List.getD_eq_getElem?_getD,List.getElem?_eq_getElem hjl]
theorem GG {words:List (IK .u16)} (hw:St words) (k:Int):0≤wd words k∧wd words k≤65535:=by
  unfold wd
  split
  · omega
  · rw [List.getD_eq_getElem?_getD]
    cases hq:words[(Int.tmod k (words.length:Int)).toNat]? with
    | none=>simp
    | some x=>exact hw x (List.mem_of_getElem? hq)
def JY (y:Ag) (words:List (IK .u16)) (b:Int):Int :=
  if Int.tmod (wd words b) 3=0 then(Ao y b).lo else if Int.tmod (wd words b) 3=1 then(Ao y b).hi
  else(Ao y b).lo+Int.tmod (Int.tdiv (wd words b) 3) ((Ao y b).hi-(Ao y b).lo+1)
def keyOf (y:Ag) (words:List (IK .u16)) (b:Int):Int:=2*JY y words b+Int.tmod (wd words (2*b+1)) 2
theorem HZ {y:Ag} (hv:y.buses.all CD=true) {words:List (IK .u16)} (hw:St words) {b:Int} (hb:b∈Ai y.buses.length):(Ao y b).lo≤JY y words b∧JY y words b≤(Ao y b).hi:=by
  have h1:=CU hv (B2.2 hb)
  have h2:=GG hw b
  unfold JY
  split
  · omega
  · split
    · omega
    · have h3:0≤Int.tdiv (wd words b) 3:=Int.tdiv_nonneg h2.1 (by omega)
      have:=Ep h3 (show 0<(Ao y b).hi-(Ao y b).lo+1 by omega)
      omega
def Fq (y:Ag) (words:List (IK .u16)):List Int:=Eo (Cy (keyOf y words)) (Ai y.buses.length)
theorem M2 (t:Int→Int) (x:Int):∀ (A B:List Int)(n:Nat),A.length<n→A.length≤1000000 →
    De n (A.reverse++x::B) ((A.reverse++x::B).map t) (A.length:Int)=some ((HV (Cy t) x A).reverse++B,((HV (Cy t) x A).reverse++B).map t)
  | _,_,0,h,_=>by omega
  | [],B,n+1,_,_=>by
    rw [De]
    simp [HV]
  | y::A,B,n+1,h,hl=>by
    have hl':A.length+1≤1000000:=by simpa using hl
    have e0:(y::A).reverse++x::B=A.reverse++y::x::B:=by simp
    have e1:(y::A).reverse++x::B=(A.reverse++[y])++x::B:=by simp
    have m0:((y::A).reverse++x::B).map t=A.reverse.map t++t y::t x::B.map t:=by simp
    have m1:((y::A).reverse++x::B).map t=(A.reverse.map t++[t y])++t x::B.map t:=by simp
    have hk:(A.reverse++[y]).length=A.length+1:=by simp
    have hkm:(A.reverse.map t++[t y]).length=A.length+1:=by simp
    have i1:B6 ((y::A).reverse++x::B) ((A.length+1:Nat):Int)=some x:=by rw [e1,F8 _ _ _ hk.symm]
    have i2:B6 ((y::A).reverse++x::B) (A.length:Int)=some y:=by rw [e0,F8 _ _ _ (by simp)]
    have u1:upd ((y::A).reverse++x::B) ((A.length+1:Nat):Int) y=some (A.reverse++y::y::B):=by rw [e1,IN _ _ _ _ hk.symm]; simp
    have i3:B6 (A.reverse++y::y::B) (A.length:Int)=some y:=F8 _ _ _ (by simp)
    have u2:upd (A.reverse++y::y::B) (A.length:Int) x=some (A.reverse++x::y::B):=IN _ _ _ _ (by simp)
    have j1:B6 (((y::A).reverse++x::B).map t) ((A.length+1:Nat):Int)=some (t x):=by rw [m1,F8 _ _ _ hkm.symm]
    have j2:B6 (((y::A).reverse++x::B).map t) (A.length:Int)=some (t y):=by rw [m0,F8 _ _ _ (by simp)]
    have v1:upd (((y::A).reverse++x::B).map t) ((A.length+1:Nat):Int) (t y)=some (A.reverse.map t++t y::t y::B.map t):=by rw [m1,IN _ _ _ _ hkm.symm]; simp
    have j3:B6 (A.reverse.map t++t y::t y::B.map t) (A.length:Int)=some (t y):=F8 _ _ _ (by simp)
    have v2:upd (A.reverse.map t++t y::t y::B.map t) (A.length:Int) (t x)=some (A.reverse.map t++t x::t y::B.map t):=IN _ _ _ _ (by simp)
    have w1:IntKind.i64.wrap (((A.length+1:Nat):Int)-1)=(A.length:Int):=by rw [He (by omega) (by omega)]; omega
    have g1:decide (((A.length+1:Nat):Int)>0)=true:=decide_eq_true (by omega)
    rw [De,List.length_cons]
    simp only [g1,cond_true,i1,i2,j1,j2,w1,Option.bind_some]
    rw [show decide (t x<t y)=Cy t x y from rfl]
    unfold HV
    cases hx:Cy t x y with
    | false=>simp
    | true =>
      simp only [cond_true,u1,i3,u2,v1,j3,v2,Option.bind_some,if_true]
      have ih:=M2 t x A (y::B) n (by simp at h; omega) (by omega)
      rw [show(A.reverse++x::y::B).map t=A.reverse.map t++t x::t y::B.map t by simp] at ih
      rw [ih]
      simp
theorem M3 {y:Ag} (hb:y.buses.length≤100) (hv:y.buses.all CD=true) {words:List (IK .u16)} (hw:St words):∀ (n i:Nat),300≤n+i→i≤y.buses.length →
    DJ n y words (Eo (Cy (keyOf y words)) (Ai i)) ((Eo (Cy (keyOf y words)) (Ai i)).map (keyOf y words)) (i:Int)=some (Fq y words,(Fq y words).map (keyOf y words))
  | 0,i,h,hi=>by omega
  | n+1,i,h,hi=>by
    rw [DJ,B4]
    by_cases hx:i<y.buses.length
    · have hm:(i:Int)∈Ai y.buses.length:=by rw [Aq]; omega
      have h1:=CU hv (B2.2 hm)
      have h2:=GG hw (i:Int)
      have h3:=GG hw (2*(i:Int)+1)
      have hmr:=HZ hv hw hm
      have hbus:B6 y.buses (i:Int)=some (Ao y (i:Int)):=Hg y (B2.2 hm)
      have hlen:(Eo (Cy (keyOf y words)) (Ai i)).length=i:=by rw [DC,Bj]
      have w0:IntKind.i64.wrap ((Ao y (i:Int)).hi-(Ao y (i:Int)).lo)=(Ao y (i:Int)).hi-(Ao y (i:Int)).lo:=He (by omega) (by omega)
      have w1:IntKind.i64.wrap ((Ao y (i:Int)).hi-(Ao y (i:Int)).lo+1)=(Ao y (i:Int)).hi-(Ao y (i:Int)).lo+1:=He (by omega) (by omega)
      have hd0:0≤Int.tdiv (wd words (i:Int)) 3:=Int.tdiv_nonneg h2.1 (by omega)
      have hd1:Int.tdiv (wd words (i:Int)) 3≤65535:=by
        rw [Int.tdiv_eq_ediv_of_nonneg h2.1]; omega
      have w2:IntKind.i64.wrap (Int.tdiv (wd words (i:Int)) 3)=Int.tdiv (wd words (i:Int)) 3:=He (by omega) (by omega)
      have hsel:((bif Int.tmod (wd words (i:Int)) 3 == 0 then some (Ao y (i:Int)).lo else(bif Int.tmod (wd words (i:Int)) 3 == 1 then some (Ao y (i:Int)).hi else
          some (IntKind.i64.wrap ((Ao y (i:Int)).lo+Int.tmod (Int.tdiv (wd words (i:Int)) 3) ((Ao y (i:Int)).hi-(Ao y (i:Int)).lo+1))))):Option Int)=some (JY y words (i:Int)):=by
        unfold JY
        by_cases c0:Int.tmod (wd words (i:Int)) 3=0
        · simp [c0]
        · by_cases c1:Int.tmod (wd words (i:Int)) 3=1
          · simp [c0,c1]
          · have:=Ep hd0 (show 0<(Ao y (i:Int)).hi-(Ao y (i:Int)).lo+1 by omega)
            rw [if_neg c0,if_neg c1]
            have b0:(Int.tmod (wd words (i:Int)) 3 == 0)=false:=by simp [c0]
            have b1:(Int.tmod (wd words (i:Int)) 3 == 1)=false:=by simp [c1]
            rw [b0,b1,cond_false,cond_false,He (by omega) (by omega)]
      have w3:IntKind.i64.wrap (2*(i:Int))=2*(i:Int):=He (by omega) (by omega)
      have w4:IntKind.i64.wrap (2*(i:Int)+1)=2*(i:Int)+1:=He (by omega) (by omega)
      have w5:IntKind.i64.wrap (2*JY y words (i:Int))=2*JY y words (i:Int):=He (by omega) (by omega)
      have ht:=Ep h3.1 (show(0:Int)<2 by omega)
      have w6:IntKind.i64.wrap (2*JY y words (i:Int)+Int.tmod (wd words (2*(i:Int)+1)) 2)=keyOf y words (i:Int):=He (by omega) (by omega)
      simp only [hx,decide_true,cond_true,hbus,Mn n words hw (i:Int) (by omega),Option.bind_some,w0,w1,w2,Rn (show(Ao y (i:Int)).hi-(Ao y (i:Int)).lo+1≠0 by omega),hsel,w3,w4,Mn n words hw (2*(i:Int)+1) (by omega),w5,w6]
      rw [ED _ _ (by simp [hlen]; omega)]
      simp only [Option.bind_some]
      rw [ED _ _ (by simp [hlen]; omega)]
      simp only [Option.bind_some]
      have h4:=M2 (keyOf y words) (i:Int) (Eo (Cy (keyOf y words)) (Ai i)).reverse [] n (by rw [List.length_reverse,hlen]; omega) (by rw [List.length_reverse,hlen]; omega)
      rw [List.reverse_reverse,List.length_reverse,hlen,List.append_nil,List.map_append] at h4
      rw [show(Eo (Cy (keyOf y words)) (Ai i)).map (keyOf y words)++[keyOf y words (i:Int)]=(Eo (Cy (keyOf y words)) (Ai i)).map (keyOf y words)++[(i:Int)].map (keyOf y words) from rfl,h4,Option.bind_some,DB i (by omega)]
      have e1:(HV (Cy (keyOf y words)) (i:Int) (Eo (Cy (keyOf y words)) (Ai i)).reverse).reverse=Eo (Cy (keyOf y words)) (Ai (i+1)):=by
        rw [BT,NP]; rfl
      rw [e1]
      exact M3 hb hv hw n (i+1) (by omega) (by omega)
    · have:i=y.buses.length:=by omega
      subst this
      simp [Fq]
theorem Ti (n:Nat) {y:Ag} (hb:y.buses.length≤100) (hv:y.buses.all CD=true) {words:List (IK .u16)} (hw:St words) (hn:300≤n):Ip n y words=some (Fq y words):=by
  unfold Ip
  have e1:=M3 hb hv hw n 0 (by omega) (by omega)
  rw [show((0:Nat):Int)=0 from rfl,show Eo (Cy (keyOf y words)) (Ai 0)=[] from rfl,List.map_nil] at e1
  rw [e1]
  rfl
theorem M4 (y:Ag):∀ (l pre:List Int),(pre++l).Nodup→(∀ b∈l,b∈Ai y.buses.length)→(pre++l).Pairwise (fun a b=>(Ao y a).lo≤(Ao y b).hi)→HT y pre l=true
  | [],pre,_,_,_=>rfl
  | b::r,pre,hn,hm,hp=>by
    unfold HT Pr
    have h1:DT b 0 ((y.buses.length:Int)-1)=true:=B2.2 (hm b (by simp))
    have hn2:=hn
    rw [List.nodup_append] at hn2
    have h2:pre.contains b=false:=by
      have:b ∉ pre:=fun h=>hn2.2.2 b h b (by simp) rfl
      simpa using this
    have hp2:=hp
    rw [List.pairwise_append] at hp2
    have h3:(pre.any fun k=>decide ((Ao y b).hi<(Ao y k).lo))=false:=by
      rw [List.any_eq_false]
      intro k hk
      have:=hp2.2.2 k hk b (by simp)
      simp
      omega
    rw [h1,h2,h3]
    simp only [Bool.or_self,Bool.not_false,Bool.and_self,Bool.true_and]
    exact M4 y r (pre++[b]) (by simpa using hn) (fun c hc=>hm c (by simp [hc])) (by simpa using hp)
theorem RP {y:Ag} (hv:y.buses.all CD=true) {words:List (IK .u16)} (hw:St words):Ei y (Fq y words)=true:=by
  unfold Ei
  have hp:=D0 (Cy (keyOf y words)) (Ai y.buses.length)
  have hmem:∀ b,b∈Fq y words↔b∈Ai y.buses.length:=fun b=>hp.mem_iff
  have hlen:(Fq y words).length=y.buses.length:=by unfold Fq; rw [DC,Bj]
  rw [decide_eq_true hlen,Bool.true_and]
  refine M4 y _ [] ?_ (fun b hb=>(hmem b).1 hb) ?_
  · rw [List.nil_append]
    exact hp.nodup_iff.2 (CK _)
  · rw [List.nil_append]
    refine List.Pairwise.imp_of_mem (fun {a b} ha hb h=>?_) (FI (keyOf y words) (Ai y.buses.length))
    have h1:=HZ hv hw ((hmem a).1 ha)
    have h2:=HZ hv hw ((hmem b).1 hb)
    have h3:=Ep (GG hw (2*a+1)).1 (show(0:Int)<2 by omega)
    have h4:=Ep (GG hw (2*b+1)).1 (show(0:Int)<2 by omega)
    unfold keyOf at h
    omega
theorem J6 {y:Ag} (hb:y.buses.length≤100) {words:List (IK .u16)} (hw:St words):∀ (n i:Nat)(acc:List Int),y.buses.length<n+i→i≤y.buses.length→acc.Pairwise (· < ·)→(∀ b∈acc,0≤b∧b<i)→acc.length≤i→((acc.length:Int)≤y.broken) →
    ∃ l,Df n y words acc (i:Int)=some l∧l.Pairwise (· < ·)∧(∀ b∈l,b∈Ai y.buses.length)∧(l.length:Int)≤y.broken
  | 0,i,acc,h,hi,_,_,_,_=>by omega
  | n+1,i,acc,h,hi,h1,h2,h3,h4=>by
    rw [Df,B4]
    by_cases hx:i<y.buses.length
    · have w1:IntKind.i64.wrap (3*(i:Int))=3*(i:Int):=He (by omega) (by omega)
      have w2:IntKind.i64.wrap (3*(i:Int)+2)=3*(i:Int)+2:=He (by omega) (by omega)
      simp only [hx,decide_true,cond_true]
      rw [w1,w2,Mn n words hw _ (by omega),DB i (by omega)]
      have skip:=J6 hb hw n (i+1) acc (by omega) (by omega) h1 (fun b hb=>by have:=h2 b hb; omega) (by omega) h4
      by_cases hq:(acc.length:Int)<y.broken
      · rw [decide_eq_true hq]
        simp only [cond_true,Option.bind_some]
        cases hz:(Int.tmod (wd words (3*(i:Int)+2)) 4 == 0) with
        | false=>simpa using skip
        | true =>
          simp only [cond_true]
          rw [ED _ _ (by simp; omega),Option.bind_some]
          refine J6 hb hw n (i+1) (acc++[(i:Int)]) (by omega) (by omega) ?_ (fun b hb=>?_) (by simp; omega) (by simp; omega)
          · rw [List.pairwise_append]
            refine⟨h1,by simp,fun a ha b hb=>?_⟩
            simp at hb
            have:=h2 a ha
            omega
          · rcases List.mem_append.1 hb with hb | hb
            · have:=h2 b hb; omega
            · simp at hb; omega
      · rw [decide_eq_false hq]
        simpa using skip
    · have:i=y.buses.length:=by omega
      subst this
      exact⟨acc,by simp,h1,fun b hb=>by rw [Aq]; exact h2 b hb,h4⟩
theorem M5 (y:Ag):∀ (l:List Int)(last:Int),(last::l).Pairwise (· < ·)→(∀ b∈l,b∈Ai y.buses.length)→GF y last l=true
  | [],_,_,_=>rfl
  | b::r,last,hp,hm=>by
    unfold GF
    rw [List.pairwise_cons] at hp
    rw [B2.2 (hm b (by simp)),decide_eq_true (hp.1 b (by simp)),Bool.true_and,Bool.true_and]
    exact M5 y r b hp.2 fun c hc=>hm c (by simp [hc])
theorem Tj (n:Nat) {y:Ag} (hb:y.buses.length≤100) (hr:0≤y.broken) {words:List (IK .u16)} (hw:St words) (hn:y.buses.length<n):∃ l,Iq n y words=some l∧Dx y l=true∧l.length≤y.buses.length:=by
  unfold Iq
  obtain⟨l,e1,e2,e3,e4⟩:=J6 hb hw n 0 [] (by omega) (by omega) List.Pairwise.nil (by simp) (by simp) (by simpa using hr)
  rw [show((0:Nat):Int)=0 from rfl] at e1
  refine⟨l,by rw [e1]; rfl,?_,M1 (e2.imp fun h=>Int.ne_of_lt h) e3⟩
  unfold Dx
  rw [decide_eq_true e4,Bool.and_true]
  refine M5 y l (-1) ?_ e3
  rw [List.pairwise_cons]
  exact⟨fun b hb=>by have:=Aq.1 (e3 b hb); omega,e2⟩
theorem Ia (room:List Int):∀ (l pre:List Int)(x:Int),Cw room pre (l++[x])=(Cw room pre l && (DT x 0 ((room.length:Int)-1) && decide (((pre++l).count x:Int)<AS room x)))
  | [],pre,x=>by simp [Cw]
  | b::r,pre,x=>by
    rw [List.cons_append,Cw,Cw,Ia room r (pre++[b]) x]
    simp [Bool.and_assoc]
theorem P3 (n:Nat) (y:Ag) (hn:100≤n):FF n y=some (decide (y.room.length≤6) && decide (y.buses.length≤12) && decide (Bc y=0)):=by
  unfold FF
  rw [Td,Option.bind_some]
  by_cases h1:y.room.length≤6
  · by_cases h2:y.buses.length≤12
    · rw [Sr n y (by omega) (by omega) (by omega) (by omega)]
      by_cases hf:Bc y=0
      · simp [h1,h2,hf]
      · have:(Bc y == 0)=false:=by simp [hf]
        simp [h1,h2,hf,this]
    · simp [h1,h2]
  · simp [h1]
end Go.Proofs.Ythcbemnflgjadaa
namespace Go.Proofs.Ythcbemnflgjadaa
open Go Go.RowKit
def J7 (lanes order:List Int) (c:Int):List Int→Bool
  | []=>false
  | b::r=>Pz lanes order c b || (c != b && J7 lanes order c r)
theorem JZ (y:Ag) (lanes order:List Int) (c:Int):∀ (ts:List Int)(g:Int→Bool),c∈(Cc y lanes order g ts).flatten↔c∈Ai y.buses.length∧g c=false∧J7 lanes order c ts=true
  | [],g=>by simp [Cc,J7]
  | b::r,g=>by
    rw [Cc,List.flatten_cons,List.mem_append,J5,JZ y lanes order c r,J7]
    unfold Jk
    simp only [Bool.or_eq_true,Bool.and_eq_true,bne_iff_ne]
    constructor
    · rintro(⟨h1,h2,h3⟩ | ⟨h1,h2,h3⟩)
      · exact⟨h1,h2,.inl h3⟩
      · split at h2
        · cases h2
        · rename_i hne
          simp only [Bool.or_eq_false_iff] at h2
          exact⟨h1,h2.1,.inr ⟨hne,h3⟩⟩
    · rintro⟨h1,h2,h3 | ⟨h3,h4⟩⟩
      · exact .inl ⟨h1,h2,h3⟩
      · cases hq:Pz lanes order c b with
        | true=>exact .inl ⟨h1,h2,rfl⟩
        | false =>
          refine .inr ⟨h1,?_,h4⟩
          rw [if_neg h3,h2,Bool.false_or]
          cases hs:A7 (Fp y lanes order g b) c with
          | false=>rfl
          | true =>
            have:c∈Fp y lanes order g b:=by simpa [A7] using hs
            rw [(J5.1 this).2.2] at hq
            cases hq
theorem QI (lanes order:List Int) (c:Int):Pz lanes order c c=false:=by simp [Pz]
theorem M6 (key:Int→Int) (lanes order:List Int) (c:Int):∀ ts:List Int,ts.Pairwise (fun a b=>key a<key b)→(J7 lanes order c ts=true↔∃ b∈ts,Pz lanes order c b=true∧(c∈ts→key b<key c))
  | [],_=>by simp [J7]
  | b::r,hp=>by
    rw [List.pairwise_cons] at hp
    have ih:=M6 key lanes order c r hp.2
    rw [J7]
    simp only [Bool.or_eq_true,Bool.and_eq_true,bne_iff_ne,ih]
    constructor
    · rintro(h | ⟨hne,d,hd,h1,h2⟩)
      · refine⟨b,by simp,h,fun hc=>?_⟩
        rcases List.mem_cons.1 hc with rfl | hc
        · rw [QI] at h; cases h
        · exact hp.1 c hc
      · refine⟨d,by simp [hd],h1,fun hc=>?_⟩
        rcases List.mem_cons.1 hc with rfl | hc
        · exact absurd rfl hne
        · exact h2 hc
    · rintro⟨d,hd,h1,h2⟩
      rcases List.mem_cons.1 hd with rfl | hd
      · exact .inl h1
      · by_cases hcb:c=b
        · exfalso
          have h3:=h2 (by simp [hcb])
          have h4:=hp.1 d hd
          rw [hcb] at h3
          omega
        · exact .inr ⟨hcb,d,hd,h1,fun hc=>h2 (by simp [hc])⟩
theorem NR:∀ (l s:List Int),FH s l=false→(∀ t∈l,t ∉ s)∧l.Nodup
  | [],s,_=>by simp
  | t::r,s,h=>by
    unfold FH at h
    simp only [Bool.or_eq_false_iff] at h
    obtain⟨h1,h2⟩:=h
    obtain⟨q1,q2⟩:=NR r (s++[t]) h2
    have h1':t ∉ s:=by simpa using h1
    refine⟨fun u hu=>?_,?_⟩
    · rcases List.mem_cons.1 hu with rfl | hu
      · exact h1'
      · exact fun hs=>q1 u hu (by simp [hs])
    · rw [List.nodup_cons]
      exact⟨fun hm=>q1 t hm (by simp),q2⟩
theorem P4 {y:Ag} (hd:FH [] (y.buses.map (·.turn))=false) {a b:Int} (ha:a∈Ai y.buses.length) (hb:b∈Ai y.buses.length) (h:BY y a=BY y b):a=b:=by
  have hn:=(NR _ _ hd).2
  rw [Aq] at ha hb
  have hal:a.toNat<(y.buses.map (·.turn)).length:=by rw [List.length_map]; omega
  have hbl:b.toNat<(y.buses.map (·.turn)).length:=by rw [List.length_map]; omega
  have h1:(y.buses.map (·.turn))[a.toNat]=(y.buses.map (·.turn))[b.toNat]:=by
    rw [List.getElem_map,List.getElem_map]
    unfold BY Ao at h
    rw [List.length_map] at hal hbl
    simpa [List.getD_eq_getElem?_getD,List.getElem?_eq_getElem hal,List.getElem?_eq_getElem hbl] using h
  have:=(List.getElem_inj hn).1 h1
  omega
theorem EW {y:Ag} (hd:FH [] (y.buses.map (·.turn))=false) (f:Int→Bool):(Bb y f).Pairwise fun a b=>BY y a<BY y b:=by
  have h1:=FI (BY y) (Mb y f)
  have h2:=Hi y f
  have h3:(Bb y f).Pairwise fun a b=>BY y a≤BY y b∧a≠b:=h1.and h2
  refine List.Pairwise.imp_of_mem (fun {a b} ha hb h=>?_) h3
  rcases Int.lt_or_eq_of_le h.1 with h4 | h4
  · exact h4
  · exact absurd (P4 hd (BM.1 ha).1 (BM.1 hb).1 h4) h.2
def TQ (y:Ag) (lanes order broken:List Int) (c b:Int):Prop:=b∈Ai y.buses.length∧A7 broken b=false∧Pz lanes order c b=true∧(A7 broken c=false→BY y b<BY y c)
theorem M7 {y:Ag} (hd:FH [] (y.buses.map (·.turn))=false) (lanes order broken:List Int) (c:Int):c∈CV y lanes order broken↔c∈Ai y.buses.length∧∃ b,TQ y lanes order broken c b:=by
  unfold CV IQ
  rw [List.mem_filter]
  have h1:A7 (Cc y lanes order (fun _=>false) (Bb y (A7 broken))).flatten c=true↔c∈(Cc y lanes order (fun _=>false) (Bb y (A7 broken))).flatten:=by simp [A7]
  rw [h1,JZ,M6 (BY y) lanes order c _ (EW hd _)]
  constructor
  · rintro⟨hc,_,_,b,hb,h2,h3⟩
    have hb':=BM.1 hb
    exact⟨hc,b,hb'.1,hb'.2,h2,fun hq=>h3 (BM.2 ⟨hc,hq⟩)⟩
  · rintro⟨hc,b,hb,h2,h3,h4⟩
    exact⟨hc,hc,rfl,b,BM.2 ⟨hb,h2⟩,h3,fun hq=>h4 (BM.1 hq).2⟩
theorem EL {y:Ag} {l:List Int} (h:Dx y l=true):l.Pairwise (· < ·)∧(∀ b∈l,b∈Ai y.buses.length)∧(l.length:Int)≤y.broken:=by
  unfold Dx at h
  simp only [Bool.and_eq_true,decide_eq_true_eq] at h
  have key:∀ (l:List Int)(last:Int),GF y last l=true→(last::l).Pairwise (· < ·)∧∀ b∈l,b∈Ai y.buses.length:=by
    intro l
    induction l with
    | nil=>intro last _; simp
    | cons b r ih =>
      intro last hq
      unfold GF at hq
      simp only [Bool.and_eq_true,decide_eq_true_eq] at hq
      obtain⟨q1,q2⟩:=ih b hq.2.2
      refine⟨?_,fun c hc=>?_⟩
      · rw [List.pairwise_cons]
        refine⟨fun c hc=>?_,q1⟩
        rcases List.mem_cons.1 hc with rfl | hc
        · exact hq.2.1
        · rw [List.pairwise_cons] at q1
          have:=q1.1 c hc
          omega
      · rcases List.mem_cons.1 hc with rfl | hc
        · exact B2.1 hq.1
        · exact q2 c hc
  obtain⟨q1,q2⟩:=key l (-1) h.1
  rw [List.pairwise_cons] at q1
  exact⟨q1.2,q2,h.2⟩
theorem M8 {y:Ag} {l:List Int} (h1:l.Pairwise (· < ·)) (h2:∀ b∈l,b∈Ai y.buses.length) (h3:(l.length:Int)≤y.broken):Dx y l=true:=by
  unfold Dx
  rw [decide_eq_true h3,Bool.and_true]
  refine M5 y l (-1) ?_ h2
  rw [List.pairwise_cons]
  exact⟨fun b hb=>by have:=Aq.1 (h2 b hb); omega,h1⟩
theorem M9 (y:Ag):∀ (l pre:List Int),HT y pre l=true→l.Pairwise (fun a b=>(Ao y a).lo≤(Ao y b).hi)∧∀ a∈pre,∀ b∈l,(Ao y a).lo≤(Ao y b).hi
  | [],pre,_=>by simp
  | b::r,pre,h=>by
    unfold HT Pr at h
    simp only [Bool.and_eq_true,Bool.not_eq_true',Bool.or_eq_false_iff] at h
    obtain⟨⟨h1,h2,h3⟩,h4⟩:=h
    obtain⟨q1,q2⟩:=M9 y r (pre++[b]) h4
    have h5:∀ a∈pre,(Ao y a).lo≤(Ao y b).hi:=fun a ha=>by
      have:=List.any_eq_false.1 h3 a ha
      simp at this
      exact this
    refine⟨?_,fun a ha c hc=>?_⟩
    · rw [List.pairwise_cons]
      exact⟨fun c hc=>q2 b (by simp) c hc,q1⟩
    · rcases List.mem_cons.1 hc with rfl | hc
      · exact h5 a ha
      · exact q2 a (by simp [ha]) c hc
end Go.Proofs.Ythcbemnflgjadaa
namespace Go.Proofs.Ythcbemnflgjadaa
open Go Go.RowKit
theorem FK {l:List Int} {x:Int}:A7 l x=true↔x∈l:=by simp [A7]
end Go.Proofs.Ythcbemnflgjadaa
namespace Go.Proofs.Ythcbemnflgjadaa
open Go Go.RowKit
def inl (lanes:List Int) (l b:Int):Bool:=AC lanes b == l
section
variable {y:Ag} {lanes:List Int} {l:Int}
end
theorem IS (room:List Int):∀ (l pre:List Int),Cw room pre l=true→∀ b∈l,DT b 0 ((room.length:Int)-1)=true
  | [],_,_,b,h=>by simp at h
  | a::r,pre,h,b,hb=>by
    rw [Cw] at h
    simp only [Bool.and_eq_true] at h
    rcases List.mem_cons.1 hb with rfl | hb
    · exact h.1
    · exact IS room r _ h.2.2 b hb
end Go.Proofs.Ythcbemnflgjadaa
namespace Go.Proofs.Ythcbemnflgjadaa
open Go Go.RowKit
def Su (x:An) (b t:Int):An:=(An.setI x b t).getD x
theorem OH (x:An) {b:Int} (h0:0≤b) (h8:b<8) (t:Int):An.setI x b t=some (Su x b t):=by
  rcases x with⟨x0,x1,x2,x3,x4,x5,x6,x7⟩
  rcases JQ h0 h8 with h | h | h | h | h | h | h | h <;> subst h <;> rfl
def CW (b t last:Int) (f:AN):AN:=⟨if t≤last then f.many+1 else f.many,Su f.tm b t⟩
def Hk (y:Ag) (down:Int):List Int→Int→Int→AN
  | [],_,_=>⟨0,⟨0,0,0,0,0,0,0,0⟩⟩
  | b::r,i,last =>
    bif decide ((CW b (Ao y b).hi last (Hk y down r (i+1) (if i<down then max last (Ao y b).hi else last))).many>(CW b (Ao y b).lo last (Hk y down r (i+1) (if i<down then max last (Ao y b).lo else last))).many)
    then CW b (Ao y b).hi last (Hk y down r (i+1) (if i<down then max last (Ao y b).hi else last))
    else CW b (Ao y b).lo last (Hk y down r (i+1) (if i<down then max last (Ao y b).lo else last))
theorem L5 {b t last:Int} {f:AN} {k:Nat} (h:0≤f.many∧f.many≤k):0≤(CW b t last f).many∧(CW b t last f).many≤((k+1:Nat):Int):=by
  unfold CW
  simp only
  split <;> omega
theorem EM (y:Ag) (down:Int):∀ (l:List Int)(i last:Int),0≤(Hk y down l i last).many∧(Hk y down l i last).many≤l.length
  | [],_,_=>by simp [Hk]
  | b::r,i,last=>by
    have h1:=L5 (b:=b) (t:=(Ao y b).hi) (last:=last) (EM y down r (i+1) (if i<down then max last (Ao y b).hi else last))
    have h2:=L5 (b:=b) (t:=(Ao y b).lo) (last:=last) (EM y down r (i+1) (if i<down then max last (Ao y b).lo else last))
    unfold Hk
    rw [List.length_cons]
    cases decide ((CW b (Ao y b).hi last (Hk y down r (i+1) (if i<down then max last (Ao y b).hi else last))).many>(CW b (Ao y b).lo last (Hk y down r (i+1) (if i<down then max last (Ao y b).lo else last))).many) with
    | true=>exact h1
    | false=>exact h2
def P5 (y:Ag) (c:Av) (known:List (Bv×AN)):Prop:=∀ (s:Bv)(f:AN),Dg known s=some f→f=Hk y c.down (c.buses.drop s.behind.toNat) s.behind s.last
theorem P5.nil (y:Ag) (c:Av):P5 y c []:=fun s f h=>by simp [Dg] at h
theorem P5.put {y:Ag} {c:Av} {known:List (Bv×AN)} (h:P5 y c known) {s:Bv} {f:AN} (hf:f=Hk y c.down (c.buses.drop s.behind.toNat) s.behind s.last):P5 y c (Gj known s f):=fun s' f' h'=>by
  rw [G7] at h'
  split at h'
  · rename_i he
    subst he
    cases h'
    exact hf
  · exact h s' f' h'
theorem J8 {y:Ag} {c:Av} (hb:y.buses.length≤8) (hc:∀ b∈c.buses,b∈Ai y.buses.length) (hl:c.buses.length≤1000):∀ (r n i:Nat)(last:Int)(known:List (Bv×AN)),3*r+5≤n→i+r=c.buses.length→P5 y c known →
    ∃ known',lane_Yard_worst_1 n ⟨(i:Int),last⟩ c known y=some (Hk y c.down (c.buses.drop i) (i:Int) last,known')∧P5 y c known'
  | 0,n,i,last,known,hn,hi,hm=>by
    obtain⟨n,rfl⟩:∃ m,n=m+1:=⟨n-1,by omega⟩
    have:i=c.buses.length:=by omega
    subst this
    refine⟨known,?_,hm⟩
    rw [lane_Yard_worst_1]
    simp [Hk]
  | r+1,n,i,last,known,hn,hi,hm=>by
    obtain⟨n,rfl⟩:∃ m,n=m+4:=⟨n-4,by omega⟩
    have hil:i<c.buses.length:=by omega
    rw [lane_Yard_worst_1]
    have e0:((i:Int) == ((c.buses.length:Nat):Int))=false:=by
      cases hq:((i:Int) == ((c.buses.length:Nat):Int)) with
      | false=>rfl
      | true=>rw [beq_iff_eq] at hq; omega
    dsimp only
    rw [e0,cond_false]
    simp only [Option.bind_some]
    unfold Ej
    cases hk:Dg known ⟨(i:Int),last⟩ with
    | some f =>
      have:=hm _ _ hk
      simp only [Int.toNat_natCast] at this
      exact⟨known,by simp [this],hm⟩
    | none =>
      have hbm:=hc _ (List.getElem_mem hil)
      have hbr:=Aq.1 hbm
      have h8:c.buses[i]<8:=by omega
      simp only [cond_false,Dv _ _ hil,Option.bind_some,IU]
      obtain⟨k1,a1,m1⟩:=J8 hb hc hl r (n+2) (i+1) (if (i:Int)<c.down then max last (Ao y c.buses[i]).lo else last) known (by omega) (by omega) hm
      obtain⟨k2,a2,m2⟩:=J8 hb hc hl r (n+1) (i+1) (if (i:Int)<c.down then max last (Ao y c.buses[i]).hi else last) k1 (by omega) (by omega) m1
      obtain⟨n,rfl⟩:∃ m,n=m+1:=⟨n-1,by omega⟩
      have w0:IntKind.i64.wrap ((i:Int)+1)=((i+1:Nat):Int):=DB i (by omega)
      have r1:=EM y c.down (c.buses.drop (i+1)) ((i:Int)+1) (if (i:Int)<c.down then max last (Ao y c.buses[i]).lo else last)
      have r2:=EM y c.down (c.buses.drop (i+1)) ((i:Int)+1) (if (i:Int)<c.down then max last (Ao y c.buses[i]).hi else last)
      rw [List.length_drop] at r1 r2
      rw [show((i+1:Nat):Int)=(i:Int)+1 by omega] at a1 a2 w0
      have wy1:AD (n+4) ⟨(i:Int),last⟩ c y c.buses[i] [BN.mk fun y0=>Bn (n+4) y0,BN.mk fun y0=>Bd (n+4) y0] 0 ⟨0,0,0,0,0,0,0,0⟩ 0 known =
          some ((Hk y c.down (c.buses.drop i) (i:Int) last).tm,(Hk y c.down (c.buses.drop i) (i:Int) last).many,k2):=by
        have last1:((bif decide ((i:Int)<c.down) then((C0 (n+3) ([last,(Ao y c.buses[i]).lo]:List Int)).bind fun x67=>some x67) else some last):Option Int)=some (if (i:Int)<c.down then max last (Ao y c.buses[i]).lo else last):=by
          by_cases hd:(i:Int)<c.down
          · rw [decide_eq_true hd,cond_true,Ml (n+1),if_pos hd]; rfl
          · rw [decide_eq_false hd,cond_false,if_neg hd]
        have last2:((bif decide ((i:Int)<c.down) then((C0 (n+2) ([last,(Ao y c.buses[i]).hi]:List Int)).bind fun x67=>some x67) else some last):Option Int)=some (if (i:Int)<c.down then max last (Ao y c.buses[i]).hi else last):=by
          by_cases hd:(i:Int)<c.down
          · rw [decide_eq_true hd,cond_true,Ml n,if_pos hd]; rfl
          · rw [decide_eq_false hd,cond_false,if_neg hd]
        have many1:∀ (t:Int)(f:AN),0≤f.many∧f.many≤1000→((bif decide (t≤last) then some (IntKind.i64.wrap (f.many+1)) else some f.many):Option Int)=some (CW c.buses[i] t last f).many:=fun t f hf=>by
          unfold CW
          by_cases hd:t≤last
          · rw [decide_eq_true hd,cond_true,He (by omega) (by omega)]; simp [hd]
          · rw [decide_eq_false hd,cond_false]; simp [hd]
        have z1:IntKind.i64.wrap (0+1)=1:=by decide
        have z2:IntKind.i64.wrap (1+1)=2:=by decide
        rw [AD]
        rw [show decide ((0:Int)<((([BN.mk fun y0=>Bn (n+4) y0,BN.mk fun y0=>Bd (n+4) y0]:List BN).length:Nat):Int))=true from rfl,cond_true]
        rw [show B6 [BN.mk fun y0=>Bn (n+4) y0,BN.mk fun y0=>Bd (n+4) y0] (0:Int)=some (BN.mk fun y0=>Bn (n+4) y0) from rfl]
        simp only [Option.bind_some,Hg y (B2.2 hbm),Bn,last1,w0,a1]
        rw [many1 _ _ ⟨r1.1,by omega⟩]
        simp only [Option.bind_some,beq_self_eq_true,cond_true,Hh hbr.1 h8,OH _ hbr.1 h8,z1]
        rw [AD]
        rw [show decide ((1:Int)<((([BN.mk fun y0=>some y0.lo,BN.mk fun y0=>Bd (n+4) y0]:List BN).length:Nat):Int))=true from rfl,cond_true]
        rw [show B6 [BN.mk fun y0=>some y0.lo,BN.mk fun y0=>Bd (n+4) y0] (1:Int)=some (BN.mk fun y0=>Bd (n+4) y0) from rfl]
        simp only [Option.bind_some,Hg y (B2.2 hbm),Bd,last2,w0,a2]
        rw [many1 _ _ ⟨r2.1,by omega⟩]
        rw [show((1:Int) == 0)=false from rfl]
        simp only [Option.bind_some,cond_false,Hh hbr.1 h8,OH _ hbr.1 h8,z2]
        rw [AD,AD]
        rw [show ∀ (q:List BN),q=[BN.mk fun y0=>some y0.lo,BN.mk fun y0=>some y0.hi]→decide ((2:Int)<((q.length:Nat):Int))=false from fun q hq=>by rw [hq]; rfl] <;> try rfl
        simp only [cond_false]
        conv=>rhs; rw [B3 hil,Hk]
        cases decide ((CW c.buses[i] (Ao y c.buses[i]).hi last (Hk y c.down (c.buses.drop (i+1)) ((i:Int)+1) (if (i:Int)<c.down then max last (Ao y c.buses[i]).hi else last))).many>(CW c.buses[i] (Ao y c.buses[i]).lo last (Hk y c.down (c.buses.drop (i+1)) ((i:Int)+1) (if (i:Int)<c.down then max last (Ao y c.buses[i]).lo else last))).many) <;> rfl
      refine⟨Gj k2 ⟨(i:Int),last⟩ (Hk y c.down (c.buses.drop i) (i:Int) last),?_,m2.put (by simp only [Int.toNat_natCast])⟩
      rw [wy1]
      rfl
theorem P6 (n:Nat) {y:Ag} {c:Av} (hb:y.buses.length≤8) (hc:∀ b∈c.buses,b∈Ai y.buses.length) (hl:c.buses.length≤1000) (hn:3*c.buses.length+5≤n):BV n y c=some (Hk y c.down c.buses 0 (-1)):=by
  unfold BV
  obtain⟨k,h1,_⟩:=J8 hb hc hl c.buses.length n 0 (-1) [] hn (by omega) (P5.nil y c)
  rw [show((0:Nat):Int)=0 from rfl,List.drop_zero] at h1
  rw [h1]
  rfl
end Go.Proofs.Ythcbemnflgjadaa
namespace Go.Proofs.Ythcbemnflgjadaa
open Go Go.RowKit
section
variable {α:Type}
def Er (m:Nat) (g:Int→α):List α:=(Ai m).map g
theorem GH (m:Nat) (g:Int→α):(Er m g).length=m:=by simp [Er,Bj]
theorem MA {m:Nat} {g:Int→α} {k:Nat} (h:k<m):(Er m g)[k]? = some (g (k:Int)):=by
  unfold Er Ai
  rw [List.getElem?_map,List.getElem?_map,List.getElem?_range h]
  rfl
theorem P7 {m:Nat} {g:Int→α} {b:Int} (h:DT b 0 ((m:Int)-1)=true):B6 (Er m g) b=some (g b):=by
  rw [AY] at h
  obtain⟨k,rfl⟩:=Int.eq_ofNat_of_zero_le h.1
  rw [RG,MA (by omega)]
theorem P8 {m:Nat} {g:Int→α} {l:List α} (hl:l.length=m) (h:∀ k,k<m→l[k]? = some (g (k:Int))):l=Er m g:=by
  apply List.ext_getElem?
  intro k
  rcases Nat.lt_or_ge k m with hk | hk
  · rw [h k hk,MA hk]
  · rw [List.getElem?_eq_none (by omega),List.getElem?_eq_none (by rw [GH]; omega)]
theorem P9 {m:Nat} {g:Int→α} {b:Int} {v:α} (h:DT b 0 ((m:Int)-1)=true):upd (Er m g) b v=some (Er m fun x=>if x=b then v else g x):=by
  rw [AY] at h
  obtain⟨k,rfl⟩:=Int.eq_ofNat_of_zero_le h.1
  rw [TO _ _ _ (by rw [GH]; omega)]
  congr 1
  refine P8 (by rw [List.length_set,GH]) fun j hj=>?_
  by_cases hjk:j=k
  · subst hjk
    rw [List.getElem?_set_self (by rw [GH]; omega)]
    simp
  · rw [List.getElem?_set_ne (Ne.symm hjk),MA hj,if_neg (by omega)]
theorem RQ (m:Nat) (x:α):List.replicate m x=Er m fun _=>x:=P8 (by simp) fun k hk=>by
  rw [List.getElem?_replicate,if_pos hk]
theorem Hl {m:Nat} {f g:Int→α} (h:∀ x,f x=g x):Er m f=Er m g:=by rw [funext h]
end
def Cd (y:Ag) (lanes:List Int) (f:Int→Bool) (k:Int):Av :=
  ⟨(Bb y f).filter (inl lanes k)++((Ai y.buses.length).filter f).filter (inl lanes k),(((Bb y f).filter (inl lanes k)).length:Int)⟩
def BQ (y:Ag) (lanes:List Int) (f:Int→Bool):List Av:=Er y.room.length (Cd y lanes f)
def F3 (lanes:List Int) (ts:List Int) (k:Int):Av:=⟨ts.filter (inl lanes k),((ts.filter (inl lanes k)).length:Int)⟩
theorem QJ (lanes ts:List Int) (b k:Int):F3 lanes (ts++[b]) k=if k=AC lanes b then⟨(F3 lanes ts k).buses++[b],(F3 lanes ts k).down+1⟩ else F3 lanes ts k:=by
  unfold F3
  rw [List.filter_append]
  by_cases h:k=AC lanes b
  · have:inl lanes k b=true:=by simp [inl,h]
    rw [if_pos h]
    simp [this]
  · have:inl lanes k b=false:=by
      unfold inl
      cases hq:(AC lanes b == k) with
      | false=>rfl
      | true=>rw [beq_iff_eq] at hq; exact absurd hq.symm h
    rw [if_neg h]
    simp [this]
theorem Ka (y:Ag) (lanes:List Int) (hl:lanes.length=y.buses.length) (hin:∀ b∈Ai y.buses.length,DT (AC lanes b) 0 ((y.room.length:Int)-1)=true)
    (step:List Av→Int→Option (List Av))
    (hstep:step=fun s x19=>((B6 lanes x19).bind fun x23=>((B6 s x23).bind fun x25=>((LH x25.buses ([x19]:List Int)).bind fun x33=>((upd s x23 ({ x25 with buses:=x33 }:Av)).bind fun u_144 =>
      ((upd u_144 x23 ({ ({ x25 with buses:=x33 }:Av) with down:=IntKind.i64.wrap (x25.down+1) }:Av)).bind fun u_169=>some u_169)))))) :
    ∀ (ts done:List Int),(∀ b∈ts,b∈Ai y.buses.length)→done.length+ts.length≤1000→ts.foldlM step (Er y.room.length (F3 lanes done))=some (Er y.room.length (F3 lanes (done++ts)))
  | [],done,_,_=>by simp
  | b::r,done,h,hlen=>by
    have hb:=h b (by simp)
    have hbr:=Aq.1 hb
    have hbt:=hin b hb
    have hpl:(done.filter (inl lanes (AC lanes b))).length≤done.length:=List.length_filter_le _ _
    have hs:step (Er y.room.length (F3 lanes done)) b=some (Er y.room.length (F3 lanes (done++[b]))):=by
      rw [hstep]
      simp only [JU lanes hbr.1 (show b<lanes.length by omega),Option.bind_some,P7 hbt]
      rw [ED _ _ (by unfold F3; simp at hlen ⊢; omega)]
      simp only [Option.bind_some,P9 hbt]
      congr 1
      refine Hl fun k=>?_
      rw [QJ]
      by_cases hk:k=AC lanes b
      · rw [if_pos hk,if_pos hk,hk]
        congr 1
        unfold F3
        simp at hlen
        exact He (by simp only; omega) (by simp only; omega)
      · rw [if_neg hk,if_neg hk,if_neg hk]
    rw [List.foldlM_cons,hs]
    show r.foldlM step (Er y.room.length (F3 lanes (done++[b])))=_
    rw [Ka y lanes hl hin step hstep r (done++[b]) (fun c hc=>h c (by simp [hc])) (by simp at hlen ⊢; omega),List.append_assoc]
    rfl
def GI (y:Ag) (lanes:List Int) (f:Int→Bool) (i:Nat) (k:Int):Av :=
  ⟨(Bb y f).filter (inl lanes k)++((Ai i).filter f).filter (inl lanes k),(((Bb y f).filter (inl lanes k)).length:Int)⟩
theorem Jn (y:Ag) (lanes:List Int) (f:Int→Bool) (hy:y.buses.length≤8) (hl:lanes.length=y.buses.length) (hin:∀ b∈Ai y.buses.length,DT (AC lanes b) 0 ((y.room.length:Int)-1)=true):∀ (n i:Nat),y.buses.length<n+i→i≤y.buses.length →
    Bf n y lanes (As f) (Er y.room.length (GI y lanes f i)) (i:Int)=some (BQ y lanes f)
  | 0,i,h,hi=>by omega
  | n+1,i,h,hi=>by
    rw [Bf,B4]
    by_cases hx:i<y.buses.length
    · have h0:(0:Int)≤(i:Int):=by omega
      have h8:(i:Int)<8:=by omega
      have hm:(i:Int)∈Ai y.buses.length:=by rw [Aq]; omega
      have hbt:=hin _ hm
      have ih:=Jn y lanes f hy hl hin n (i+1) (by omega) (by omega)
      simp only [hx,decide_true,cond_true,Hh h0 h8,GB _ h0 h8,Option.bind_some]
      rw [DB i (by omega)]
      cases hf:f (i:Int) with
      | false =>
        have e1:Er y.room.length (GI y lanes f i)=Er y.room.length (GI y lanes f (i+1)):=Hl fun k=>by
          unfold GI
          rw [BT,List.filter_append]
          simp [hf]
        simp only [cond_false]
        rw [e1]
        exact ih
      | true =>
        have hl1:=List.length_filter_le (inl lanes (AC lanes (i:Int))) (Bb y f)
        have hl2:=List.length_filter_le (inl lanes (AC lanes (i:Int))) ((Ai i).filter f)
        have hl3:=List.length_filter_le f (Ai i)
        rw [Bj] at hl3
        have hl4:=FJ y f
        simp only [cond_true,JU lanes h0 (show(i:Int)<lanes.length by omega),Option.bind_some,P7 hbt]
        rw [ED _ _ (by unfold GI; rw [List.length_append,List.length_singleton]; omega)]
        simp only [Option.bind_some,P9 hbt]
        have e1:(Er y.room.length fun x=>if x=AC lanes (i:Int) then({ GI y lanes f i (AC lanes (i:Int)) with buses:=(GI y lanes f i (AC lanes (i:Int))).buses++[(i:Int)] }:Av) else GI y lanes f i x)=Er y.room.length (GI y lanes f (i+1)):=Hl fun k=>by
          by_cases hk:k=AC lanes (i:Int)
          · have hq:inl lanes k (i:Int)=true:=by simp [inl,hk]
            rw [if_pos hk,← hk]
            unfold GI
            rw [BT,List.filter_append,List.filter_append]
            simp [hf,hq]
          · have hq:inl lanes k (i:Int)=false:=by
              unfold inl
              cases hz:(AC lanes (i:Int) == k) with
              | false=>rfl
              | true=>rw [beq_iff_eq] at hz; exact absurd hz.symm hk
            rw [if_neg hk]
            unfold GI
            rw [BT,List.filter_append,List.filter_append]
            simp [hf,hq]
        rw [e1]
        exact ih
    · have:i=y.buses.length:=by omega
      subst this
      simp only [Nat.lt_irrefl,decide_false,cond_false]
      rfl
theorem MB (n:Nat) (y:Ag) (lanes:List Int) (f:Int→Bool) (hm:y.room.length≤1000) (hy:y.buses.length≤8) (hv:y.buses.all CD=true) (hl:lanes.length=y.buses.length) (hin:∀ b∈Ai y.buses.length,DT (AC lanes b) 0 ((y.room.length:Int)-1)=true) (hn:20≤n) :
    Cu n y lanes (As f)=some (BQ y lanes f):=by
  unfold Cu
  have htl:=FJ y f
  rw [Uq _ _ (by omega),Option.bind_some,Pw n y f hy hv hn,Option.bind_some]
  have h1:=Ka y lanes hl hin _ rfl (Bb y f) [] (fun b hb=>(BM.1 hb).1) (by simp; omega)
  have h2:=(NQ n _ (Er y.room.length (F3 lanes [])) (Bb y f) (by omega) (by omega)).trans h1
  rw [RQ,show(Er y.room.length fun _=>(Av.mk ([]:List Int) 0))=Er y.room.length (F3 lanes []) from rfl,h2,Option.bind_some,List.nil_append]
  have h3:=Jn y lanes f hy hl hin n 0 (by omega) (by omega)
  rw [show((0:Nat):Int)=0 from rfl,show Er y.room.length (GI y lanes f 0)=Er y.room.length (F3 lanes (Bb y f)) from Hl fun k=>by unfold GI F3; simp [Ai]] at h3
  rw [h3]
  rfl
theorem DF {y:Ag} {lanes:List Int} (h:Be y lanes=true):lanes.length=y.buses.length∧∀ b∈Ai y.buses.length,DT (AC lanes b) 0 ((y.room.length:Int)-1)=true:=by
  unfold Be at h
  simp only [Bool.and_eq_true,decide_eq_true_eq] at h
  refine⟨h.1,fun b hb=>?_⟩
  have hbr:=Aq.1 hb
  have hcl:b.toNat<lanes.length:=by omega
  have:=IS _ _ _ h.2 _ (List.getElem_mem hcl)
  unfold AC
  rw [List.getD_eq_getElem?_getD,List.getElem?_eq_getElem hcl]
  exact this
theorem DV {y:Ag} {lanes:List Int} {f:Int→Bool} {k b:Int}:b∈(Cd y lanes f k).buses↔b∈Ai y.buses.length∧inl lanes k b=true:=by
  unfold Cd
  rw [List.mem_append,List.mem_filter,List.mem_filter,List.mem_filter,BM]
  constructor
  · rintro(⟨⟨h1,_⟩,h2⟩ | ⟨⟨h1,_⟩,h2⟩) <;> exact⟨h1,h2⟩
  · rintro⟨h1,h2⟩
    cases hf:f b with
    | false=>exact .inl ⟨⟨h1,rfl⟩,h2⟩
    | true=>exact .inr ⟨⟨h1,rfl⟩,h2⟩
theorem OI (y:Ag) (lanes:List Int) (f:Int→Bool) (k:Int):(Cd y lanes f k).buses.length≤2*y.buses.length:=by
  unfold Cd
  have h1:=List.length_filter_le (inl lanes k) (Bb y f)
  have h2:=FJ y f
  have h3:=List.length_filter_le (inl lanes k) ((Ai y.buses.length).filter f)
  have h4:=List.length_filter_le f (Ai y.buses.length)
  rw [Bj] at h4
  rw [List.length_append]
  omega
end Go.Proofs.Ythcbemnflgjadaa
namespace Go.Proofs.Ythcbemnflgjadaa
open Go Go.RowKit
def Mc (f:Int→Bool) (b:Int):Int→Bool:=fun x=>if x=b then true else f x
def HK (N:Nat):Nat→Nat→(Int→Bool)→List (Int→Bool)
  | _,0,_=>[]
  | 0,_+1,_=>[]
  | m+1,r+1,f=>(Mc f ((N-(r+1):Nat):Int)::HK N m r (Mc f ((N-(r+1):Nat):Int)))++HK N (m+1) r f
theorem Kb (N:Nat):∀ (r m:Nat)(f:Int→Bool),(HK N m r f).length+1≤2 ^ r
  | 0,m,f=>by cases m <;> simp [HK]
  | r+1,0,f=>by
    have:1≤2 ^ (r+1):=Nat.one_le_two_pow
    simpa [HK] using this
  | r+1,m+1,f=>by
    have h1:=Kb N r m (Mc f ((N-(r+1):Nat):Int))
    have h2:=Kb N r (m+1) f
    rw [HK,List.length_append,List.length_cons,Nat.pow_succ]
    omega
theorem KU (y:Ag) (hy:y.buses.length≤8):∀ (r n i m:Nat)(out:List Ar)(f:Int→Bool),2*r+1≤n→i+r=y.buses.length→m≤2→out.length+2 ^ r≤1000000 →
    Ba n (As f) (m:Int) y out (i:Int)=some (out++(HK y.buses.length m r f).map As)
  | 0,n,i,m,out,f,hn,hi,hm,ho=>by
    obtain⟨n,rfl⟩:∃ k,n=k+1:=⟨n-1,by omega⟩
    have:i=y.buses.length:=by omega
    rw [Ba,B4,this]
    cases m <;> simp [HK]
  | r+1,n,i,m,out,f,hn,hi,hm,ho=>by
    obtain⟨n,rfl⟩:∃ k,n=k+2:=⟨n-2,by omega⟩
    have hx:i<y.buses.length:=by omega
    have h0:(0:Int)≤(i:Int):=by omega
    have h8:(i:Int)<8:=by omega
    have hp:2 ^ (r+1)=2 ^ r+2 ^ r:=by rw [Nat.pow_succ]; omega
    have hp1:1≤2 ^ r:=Nat.one_le_two_pow
    rw [Ba,B4]
    cases m with
    | zero=>simp [hx,HK]
    | succ m =>
      have g1:decide (((m+1:Nat):Int)>0)=true:=decide_eq_true (by omega)
      have w1:IntKind.i64.wrap (((m+1:Nat):Int)-1)=(m:Int):=by rw [He (by omega) (by omega)]; omega
      have hb:((y.buses.length-(r+1):Nat):Int)=(i:Int):=by omega
      simp only [hx,decide_true,cond_true,g1,Option.bind_some,Hh h0 h8,GC f h0 h8,w1]
      rw [DB i (by omega),show(As fun x=>if x=(i:Int) then true else f x)=As (Mc f (i:Int)) from rfl]
      have hl:=Kb y.buses.length r m (Mc f (i:Int))
      have e1:lane_Yard_breaks_1 (n+1) (As (Mc f (i:Int))) ((i+1:Nat):Int) (m:Int) out y=some (out++(Mc f (i:Int)::HK y.buses.length m r (Mc f (i:Int))).map As):=by
        rw [lane_Yard_breaks_1,ED _ _ (by simp; omega),Option.bind_some,KU y hy r n (i+1) m _ _ (by omega) (by omega) (by omega) (by simp; omega),Option.bind_some]
        simp
      rw [e1,Option.bind_some,KU y hy r (n+1) (i+1) (m+1) _ _ (by omega) (by omega) (by omega) (by simp; omega),HK,hb]
      simp
def Bl (y:Ag):List (Int→Bool):=(fun _=>false)::HK y.buses.length y.broken.toNat y.buses.length fun _=>false
theorem NS (n:Nat) {y:Ag} (hy:y.buses.length≤8) (hb:DT y.broken 0 2=true) (hn:20≤n):C7 n y=some ((Bl y).map As):=by
  have hb':=AY.1 hb
  obtain⟨m,hm⟩:=Int.eq_ofNat_of_zero_le hb'.1
  obtain⟨n,rfl⟩:∃ k,n=k+1:=⟨n-1,by omega⟩
  have hp:2 ^ y.buses.length≤2 ^ 8:=Nat.pow_le_pow_right (by omega) hy
  unfold C7
  rw [lane_Yard_breaks_1,ED _ _ (by simp),Option.bind_some,hm]
  have h1:=KU y hy y.buses.length n 0 m ([]++[As fun _=>false]) (fun _=>false) (by omega) (by omega) (by omega) (by simp; omega)
  rw [show((0:Nat):Int)=0 from rfl] at h1
  rw [Rm,show As (A7 [])=As (fun _=>false) from CJ fun x=>by simp [A7],h1]
  unfold Bl
  rw [hm]
  simp
theorem Kc (y:Ag) (hy:y.buses.length≤8):(Bl y).length≤256:=by
  have h1:=Kb y.buses.length y.buses.length y.broken.toNat fun _=>false
  have hp:2 ^ y.buses.length≤2 ^ 8:=Nat.pow_le_pow_right (by omega) hy
  unfold Bl
  rw [List.length_cons]
  omega
def BG (x:An) (b:Int):Int:=x.toL.getD b.toNat 0
theorem J9 (x:An) {b:Int} (h0:0≤b) (h8:b<8):B6 x.toL b=some (BG x b):=by
  rcases x with⟨x0,x1,x2,x3,x4,x5,x6,x7⟩
  rcases JQ h0 h8 with h | h | h | h | h | h | h | h <;> subst h <;> rfl
def BZ (y:Ag) (c:Av):AN:=Hk y c.down c.buses 0 (-1)
def MC (f:AN) (l:List Int) (w:An):An:=l.foldl (fun w b=>Su w b (BG f.tm b)) w
theorem MD {y:Ag} (hy:y.buses.length≤8) (c:Av) (hc:∀ b∈c.buses,b∈Ai y.buses.length) (hl:c.buses.length≤1000) (f:AN):∀ (n i:Nat)(w:An),c.buses.length<n+i→i≤c.buses.length →
    B0 n c f (i:Int) w=some (MC f (c.buses.drop i) w)
  | 0,i,w,h,hi=>by omega
  | n+1,i,w,h,hi=>by
    rw [B0,B4]
    by_cases hx:i<c.buses.length
    · have hb:=Aq.1 (hc _ (List.getElem_mem hx))
      have h8:c.buses[i]<8:=by omega
      simp only [hx,decide_true,cond_true,Dv _ _ hx,Option.bind_some,Hh hb.1 h8,J9 f.tm hb.1 h8,OH w hb.1 h8]
      rw [DB i (by omega),MD hy c hc hl f n (i+1) _ (by omega) (by omega),B3 hx]
      rfl
    · have:i=c.buses.length:=by omega
      subst this
      simp [MC]
def JA (y:Ag) (cs:List Av):Int:=(cs.map fun c=>(BZ y c).many).sum
def Gl (y:Ag) (cs:List Av) (w:An):An:=cs.foldl (fun w c=>MC (BZ y c) c.buses w) w
theorem ME {y:Ag} (hy:y.buses.length≤8) (cs:List Av) (hc:∀ c∈cs,(∀ b∈c.buses,b∈Ai y.buses.length)∧c.buses.length≤16) (hl:cs.length≤100):∀ (n i:Nat)(s:Int)(w:An),200≤n+i→i≤cs.length→0≤s∧s≤16*i →
    B1 n y cs (i:Int) s w=some (s+JA y (cs.drop i),Gl y (cs.drop i) w)
  | 0,i,s,w,h,hi,_=>by omega
  | n+1,i,s,w,h,hi,hs=>by
    rw [B1,B4]
    by_cases hx:i<cs.length
    · obtain⟨c1,c2⟩:=hc _ (List.getElem_mem hx)
      have hr:=EM y cs[i].down cs[i].buses 0 (-1)
      have hl3:=MD hy cs[i] c1 (by omega) (BZ y cs[i]) n 0 w (by omega) (by omega)
      rw [show((0:Nat):Int)=0 from rfl,List.drop_zero] at hl3
      have hw:BV n y cs[i]=some (BZ y cs[i]):=P6 n hy c1 (by omega) (by omega)
      simp only [hx,decide_true,cond_true,Dv _ _ hx,Option.bind_some,hw,hl3]
      have hm0:0≤(BZ y cs[i]).many∧(BZ y cs[i]).many≤16:=⟨hr.1,by have:=hr.2; unfold BZ; omega⟩
      rw [DB i (by omega),He (by omega) (by omega),ME hy cs hc hl n (i+1) _ _ (by omega) (by omega) ⟨by omega,by omega⟩,B3 hx]
      unfold JA Gl
      rw [List.map_cons,List.sum_cons,List.foldl_cons]
      congr 2
      omega
    · have:i=cs.length:=by omega
      subst this
      simp [JA,Gl]
def FL:An:=⟨0,0,0,0,0,0,0,0⟩
def EN (y:Ag) (lanes:List Int) (f:Int→Bool):Int:=JA y (BQ y lanes f)
def Gm (y:Ag) (lanes:List Int) (f:Int→Bool):An:=Gl y (BQ y lanes f) FL
def HB (y:Ag) (lanes:List Int):List (Int→Bool)→Int×An×Ar→Int×An×Ar
  | [],s=>s
  | f::r,s=>HB y lanes r (bif decide (EN y lanes f>s.1) then(EN y lanes f,Gm y lanes f,As f) else s)
theorem OJ {y:Ag} {lanes:List Int} {f:Int→Bool} (hy:y.buses.length≤8):∀ c∈BQ y lanes f,(∀ b∈c.buses,b∈Ai y.buses.length)∧c.buses.length≤16:=fun c hc=>by
  unfold BQ Er at hc
  obtain⟨k,_,rfl⟩:=List.mem_map.1 hc
  exact⟨fun b hb=>(DV.1 hb).1,by have:=OI y lanes f k; omega⟩
theorem JB {y:Ag} {lanes:List Int} (hy:y.buses.length≤8) (hm:y.room.length≤3) (hv:y.buses.all CD=true) (hl:Be y lanes=true) (B:List (Int→Bool)) (hB:B.length≤256):∀ (n i:Nat)(s:Int×An×Ar),500≤n+i→i≤B.length →
    Bg n y lanes (B.map As) (i:Int) s.1 s.2.1 s.2.2=some (HB y lanes (B.drop i) s)
  | 0,i,s,h,hi=>by omega
  | n+1,i,s,h,hi=>by
    obtain⟨l1,l2⟩:=DF hl
    rw [Bg]
    rw [show decide ((i:Int)<(((B.map As).length:Nat):Int))=decide (i<B.length) by rw [B4,List.length_map]]
    by_cases hx:i<B.length
    · have hix:B6 (B.map As) (i:Int)=some (As B[i]):=by rw [RG,List.getElem?_map,List.getElem?_eq_getElem hx]; rfl
      have h2:=ME hy (BQ y lanes B[i]) (OJ hy) (by unfold BQ; rw [GH]; omega) n 0 0 FL (by omega) (by omega) (by omega)
      rw [show((0:Nat):Int)=0 from rfl,List.drop_zero,Int.zero_add] at h2
      simp only [hx,decide_true,cond_true,hix,Option.bind_some,MB n y lanes B[i] (by omega) hy hv l1 l2 (by omega)]
      rw [show(An.mk 0 0 0 0 0 0 0 0)=FL from rfl,h2,Option.bind_some,DB i (by omega),B3 hx,HB]
      rw [show JA y (BQ y lanes B[i])=EN y lanes B[i] from rfl,show Gl y (BQ y lanes B[i]) FL=Gm y lanes B[i] from rfl]
      cases decide (EN y lanes B[i]>s.1) with
      | true=>exact JB hy hm hv hl B hB n (i+1) (EN y lanes B[i],Gm y lanes B[i],As B[i]) (by omega) (by omega)
      | false=>exact JB hy hm hv hl B hB n (i+1) s (by omega) (by omega)
    · have:i=B.length:=by omega
      subst this
      simp [HB]
def FM (y:Ag) (lanes:List Int):Int×An×Ar:=HB y lanes (Bl y) (-1,FL,As fun _=>false)
theorem QK (n:Nat) {y:Ag} {lanes:List Int} (hf:Bc y=0) (hl:Be y lanes=true) (hn:500≤n):CL n y lanes=some ((FM y lanes).2.1,(FM y lanes).2.2,(FM y lanes).1):=by
  obtain⟨v1,v0,v2,v3,v4,v5,v6⟩:=Cb hf
  unfold CL
  rw [NS n v2 v3 (by omega),Option.bind_some]
  have h1:=JB v2 v1 v5 hl (Bl y) (Kc y v2) n 0 (-1,FL,As fun _=>false) (by omega) (by omega)
  rw [show((0:Nat):Int)=0 from rfl,List.drop_zero] at h1
  rw [show(An.mk 0 0 0 0 0 0 0 0)=FL from rfl,show(Ar.mk false false false false false false false false)=As (fun _=>false) from rfl,h1]
  rfl
def AJ (y:Ag) (lanes:List Int):Int:=(FM y lanes).1
theorem Ib (y:Ag) (lanes:List Int):∀ (B:List (Int→Bool))(s:Int×An×Ar),s.1≤(HB y lanes B s).1∧∀ f∈B,EN y lanes f≤(HB y lanes B s).1
  | [],s=>by simp [HB]
  | f::r,s=>by
    rw [HB]
    by_cases h:EN y lanes f>s.1
    · rw [decide_eq_true h,cond_true]
      obtain⟨h1,h2⟩:=Ib y lanes r (EN y lanes f,Gm y lanes f,As f)
      refine⟨by simp only at h1; omega,fun g hg=>?_⟩
      rcases List.mem_cons.1 hg with rfl | hg
      · exact h1
      · exact h2 g hg
    · rw [decide_eq_false h,cond_false]
      obtain⟨h1,h2⟩:=Ib y lanes r s
      refine⟨h1,fun g hg=>?_⟩
      rcases List.mem_cons.1 hg with rfl | hg
      · omega
      · exact h2 g hg
theorem KV (y:Ag) (lanes:List Int):∀ (B:List (Int→Bool))(s:Int×An×Ar),HB y lanes B s=s∨∃ f∈B,HB y lanes B s=(EN y lanes f,Gm y lanes f,As f)
  | [],s=>.inl rfl
  | f::r,s=>by
    rw [HB]
    cases decide (EN y lanes f>s.1) with
    | true =>
      rcases KV y lanes r (EN y lanes f,Gm y lanes f,As f) with h | ⟨g,hg,h⟩
      · exact .inr ⟨f,by simp,h⟩
      · exact .inr ⟨g,by simp [hg],h⟩
    | false =>
      rcases KV y lanes r s with h | ⟨g,hg,h⟩
      · exact .inl h
      · exact .inr ⟨g,by simp [hg],h⟩
end Go.Proofs.Ythcbemnflgjadaa
namespace Go.Proofs.Ythcbemnflgjadaa
open Go Go.RowKit
def Ic (down:Int) (m:Int→Int):List Int→Int→Int→Int
  | [],_,_=>0
  | b::r,i,last=>(if m b≤last then 1 else 0)+Ic down m r (i+1) (if i<down then max last (m b) else last)
def Tb (y:Ag) (down:Int):List Int→Int→Int→Int
  | [],_,_=>0
  | b::r,i,last=>max ((if (Ao y b).lo≤last then 1 else 0)+Tb y down r (i+1) (if i<down then max last (Ao y b).lo else last)) ((if (Ao y b).hi≤last then 1 else 0)+Tb y down r (i+1) (if i<down then max last (Ao y b).hi else last))
theorem JC (b t last:Int) (f:AN):(CW b t last f).many=(if t≤last then 1 else 0)+f.many:=by
  unfold CW
  simp only
  split <;> omega
theorem QL (y:Ag) (down:Int):∀ (l:List Int)(i last:Int),(Hk y down l i last).many=Tb y down l i last
  | [],_,_=>rfl
  | b::r,i,last=>by
    have h1:=QL y down r (i+1) (if i<down then max last (Ao y b).lo else last)
    have h2:=QL y down r (i+1) (if i<down then max last (Ao y b).hi else last)
    rw [Hk,Tb,← h1,← h2,← JC b,← JC b]
    by_cases h:(CW b (Ao y b).hi last (Hk y down r (i+1) (if i<down then max last (Ao y b).hi else last))).many>(CW b (Ao y b).lo last (Hk y down r (i+1) (if i<down then max last (Ao y b).lo else last))).many
    · rw [decide_eq_true h,cond_true]; omega
    · rw [decide_eq_false h,cond_false]; omega
theorem MF (y:Ag) (down:Int):∀ (l:List Int)(i a b:Int),a≤b→Tb y down l i a≤Tb y down l i b
  | [],_,_,_,_=>Int.le_refl _
  | c::r,i,a,b,h=>by
    have h1:=MF y down r (i+1) (if i<down then max a (Ao y c).lo else a) (if i<down then max b (Ao y c).lo else b) (by split <;> omega)
    have h2:=MF y down r (i+1) (if i<down then max a (Ao y c).hi else a) (if i<down then max b (Ao y c).hi else b) (by split <;> omega)
    rw [Tb,Tb]
    have e1:(if (Ao y c).lo≤a then(1:Int) else 0)≤(if (Ao y c).lo≤b then 1 else 0):=by split <;> split <;> omega
    have e2:(if (Ao y c).hi≤a then(1:Int) else 0)≤(if (Ao y c).hi≤b then 1 else 0):=by split <;> split <;> omega
    omega
theorem Ro {y:Ag} (down:Int) (m:Int→Int):∀ (l:List Int)(i last:Int),(∀ b∈l,(Ao y b).lo≤m b∧m b≤(Ao y b).hi)→Ic down m l i last≤Tb y down l i last
  | [],_,_,_=>Int.le_refl _
  | b::r,i,last,h=>by
    have hb:=h b (by simp)
    have hi:=Ro (y:=y) down m r (i+1) (if i<down then max last (m b) else last) fun c hc=>h c (by simp [hc])
    rw [Ic,Tb]
    by_cases hq:m b≤last
    · rw [if_pos hq,if_pos (show(Ao y b).lo≤last by omega)]
      have e1:(if i<down then max last (Ao y b).lo else last)=(if i<down then max last (m b) else last):=by split <;> omega
      rw [e1]
      omega
    · rw [if_neg hq]
      have h2:=MF y down r (i+1) (if i<down then max last (m b) else last) (if i<down then max last (Ao y b).hi else last) (by split <;> omega)
      have e2:(0:Int)≤(if (Ao y b).hi≤last then 1 else 0):=by split <;> omega
      omega
theorem Hm (down:Int) {m m':Int→Int}:∀ (l:List Int)(i last:Int),(∀ b∈l,m b=m' b)→Ic down m l i last=Ic down m' l i last
  | [],_,_,_=>rfl
  | b::r,i,last,h=>by
    rw [Ic,Ic,h b (by simp),Hm down r _ _ fun c hc=>h c (by simp [hc])]
theorem Ie (x:An) {b c:Int} (h0:0≤b) (h8:b<8) (g0:0≤c) (g8:c<8) (t:Int):BG (Su x b t) c=if c=b then t else BG x c:=by
  rcases x with⟨x0,x1,x2,x3,x4,x5,x6,x7⟩
  rcases JQ h0 h8 with h | h | h | h | h | h | h | h <;> subst h <;>
    rcases JQ g0 g8 with g | g | g | g | g | g | g | g <;> subst g <;> rfl
theorem KW (y:Ag) (down:Int):∀ (l:List Int)(i last:Int),l.Nodup→(∀ b∈l,0≤b∧b<8) →
    Ic down (BG (Hk y down l i last).tm) l i last=(Hk y down l i last).many∧∀ b∈l,BG (Hk y down l i last).tm b=(Ao y b).lo∨BG (Hk y down l i last).tm b=(Ao y b).hi
  | [],_,_,_,_=>⟨rfl,by simp⟩
  | b::r,i,last,hn,h8=>by
    obtain⟨hnb,hnr⟩:=List.nodup_cons.1 hn
    have hb:=h8 b (by simp)
    have hr8:∀ c∈r,0≤c∧c<8:=fun c hc=>h8 c (by simp [hc])
    have way:∀ t:Int,(t=(Ao y b).lo∨t=(Ao y b).hi)→Ic down (BG (CW b t last (Hk y down r (i+1) (if i<down then max last t else last))).tm) (b::r) i last=(CW b t last (Hk y down r (i+1) (if i<down then max last t else last))).many ∧
        ∀ c∈b::r,BG (CW b t last (Hk y down r (i+1) (if i<down then max last t else last))).tm c=(Ao y c).lo∨BG (CW b t last (Hk y down r (i+1) (if i<down then max last t else last))).tm c=(Ao y c).hi:=fun t ht=>by
      obtain⟨e1,e2⟩:=KW y down r (i+1) (if i<down then max last t else last) hnr hr8
      generalize Hk y down r (i+1) (if i<down then max last t else last)=F at e1 e2 ⊢
      have tmb:BG (CW b t last F).tm b=t:=by
        unfold CW
        rw [Ie _ hb.1 hb.2 hb.1 hb.2,if_pos rfl]
      have tmr:∀ c∈r,BG (CW b t last F).tm c=BG F.tm c:=fun c hc=>by
        have hcb : ¬ c=b:=fun hq=>hnb (hq▸hc)
        unfold CW
        rw [Ie _ hb.1 hb.2 (hr8 c hc).1 (hr8 c hc).2,if_neg hcb]
      refine⟨?_,fun c hc=>?_⟩
      · rw [Ic,tmb,Hm down r _ _ tmr,e1,JC]
      · rcases List.mem_cons.1 hc with rfl | hc
        · rw [tmb]; exact ht
        · rw [tmr c hc]; exact e2 c hc
    rw [Hk]
    cases decide ((CW b (Ao y b).hi last (Hk y down r (i+1) (if i<down then max last (Ao y b).hi else last))).many>(CW b (Ao y b).lo last (Hk y down r (i+1) (if i<down then max last (Ao y b).lo else last))).many) with
    | true=>exact way _ (.inr rfl)
    | false=>exact way _ (.inl rfl)
def Ig (m:Int→Int) (l:List Int):Int:=l.foldl (fun a b=>max a (m b)) (-1)
theorem QM (m:Int→Int) (l:List Int) (b:Int):Ig m (l++[b])=max (Ig m l) (m b):=by simp [Ig,List.foldl_append]
theorem PA (m:Int→Int) (x:Int):∀ (l:List Int)(a:Int),x≤l.foldl (fun a b=>max a (m b)) a↔x≤a∨∃ b∈l,x≤m b
  | [],a=>by simp
  | b::r,a=>by
    rw [List.foldl_cons,PA m x r]
    constructor
    · rintro(h | ⟨c,hc,h⟩)
      · rcases Int.le_total a (m b) with q | q
        · exact .inr ⟨b,by simp,by omega⟩
        · exact .inl (by omega)
      · exact .inr ⟨c,by simp [hc],h⟩
    · rintro(h | ⟨c,hc,h⟩)
      · exact .inl (by omega)
      · rcases List.mem_cons.1 hc with rfl | hc
        · exact .inl (by omega)
        · exact .inr ⟨c,hc,h⟩
theorem PB {m:Int→Int} {x:Int} (hx:0≤x) (l:List Int):x≤Ig m l↔∃ b∈l,x≤m b:=by
  unfold Ig
  rw [PA]
  constructor
  · rintro(h | h)
    · omega
    · exact h
  · exact .inr
theorem Tz (down:Int) (m:Int→Int):∀ (B:List Int)(i last:Int),down≤i→Ic down m B i last=((B.filter fun c=>decide (m c≤last)).length:Int)
  | [],_,_,_=>rfl
  | c::r,i,last,h=>by
    rw [Ic,if_neg (show ¬ i<down by omega),Tz down m r (i+1) last (by omega),List.filter_cons]
    by_cases hq:m c≤last
    · simp [hq]; omega
    · simp [hq]
theorem T0 (down:Int) (m:Int→Int) (hm:∀ b,0≤m b) (key:Int→Int) (B:List Int):∀ (A pre:List Int)(i:Int),(pre++A).Pairwise (fun a b=>key a<key b)→i+(A.length:Int)≤down →
    Ic down m (A++B) i (Ig m pre)=((A.filter fun c=>(pre++A).any fun b=>decide (m c≤m b) && decide (key b<key c)).length:Int)+Ic down m B (i+(A.length:Int)) (Ig m (pre++A))
  | [],pre,i,_,_=>by simp
  | c::A,pre,i,hp,hd=>by
    have hs:(pre++[c])++A=pre++c::A:=by simp
    have hi:=T0 down m hm key B A (pre++[c]) (i+1) (by rw [hs]; exact hp) (by simp at hd; omega)
    rw [QM,hs] at hi
    rw [List.cons_append,Ic,if_pos (show i<down by simp at hd; omega),hi,List.filter_cons]
    have hc:(m c≤Ig m pre)↔((pre++c::A).any fun b=>decide (m c≤m b) && decide (key b<key c))=true:=by
      rw [PB (hm c),List.any_eq_true]
      obtain⟨_,p2,p3⟩:=List.pairwise_append.1 hp
      obtain⟨p4,_⟩:=List.pairwise_cons.1 p2
      constructor
      · rintro⟨b,hb,h⟩
        exact⟨b,by simp [hb],by simp [h,p3 b hb c (by simp)]⟩
      · rintro⟨b,hb,h⟩
        simp only [Bool.and_eq_true,decide_eq_true_eq] at h
        rcases List.mem_append.1 hb with hb | hb
        · exact⟨b,hb,h.1⟩
        · rcases List.mem_cons.1 hb with rfl | hb
          · omega
          · have:=p4 b hb; omega
    by_cases hq:m c≤Ig m pre
    · rw [if_pos hq,if_pos (hc.1 hq),List.length_cons]
      simp only [List.length_cons]
      rw [show i+1+(A.length:Int)=i+((A.length+1:Nat):Int) by omega]
      omega
    · rw [if_neg hq,if_neg (fun h=>hq (hc.2 h)),List.length_cons]
      rw [show i+1+(A.length:Int)=i+((A.length+1:Nat):Int) by omega]
      omega
def Jf (y:Ag) (lanes:List Int) (f:Int→Bool) (m:Int→Int) (c:Int):Bool :=
  (Ai y.buses.length).any fun b=>!f b && (AC lanes b == AC lanes c && (decide (m c≤m b) && (f c || decide (BY y b<BY y c))))
theorem EO {l:List Int} {p q:Int→Bool} (h:∀ c∈l,p c=q c):(l.filter p).length=(l.filter q).length:=by
  rw [List.filter_congr h]
theorem RR {y:Ag} (hd:FH [] (y.buses.map (·.turn))=false) (lanes:List Int) (f:Int→Bool) (m:Int→Int) (hm:∀ b,0≤m b) (k:Int) :
    Ic (Cd y lanes f k).down m (Cd y lanes f k).buses 0 (-1)=(((Cd y lanes f k).buses.filter (Jf y lanes f m)).length:Int):=by
  have hs:((Bb y f).filter (inl lanes k)).Pairwise fun a b=>BY y a<BY y b:=List.Pairwise.filter _ (EW hd f)
  have h1:=T0 (((Bb y f).filter (inl lanes k)).length:Int) m hm (BY y) (((Ai y.buses.length).filter f).filter (inl lanes k)) ((Bb y f).filter (inl lanes k)) [] 0 hs (by omega)
  rw [Tz _ m (((Ai y.buses.length).filter f).filter (inl lanes k)) _ _ (by omega)] at h1
  unfold Cd
  simp only
  rw [show Ig m []=-1 from rfl] at h1
  rw [h1,List.filter_append,List.length_append]
  have memA:∀ c,c∈(Bb y f).filter (inl lanes k)↔(c∈Ai y.buses.length∧f c=false)∧AC lanes c=k:=fun c=>by
    rw [List.mem_filter,BM]; simp [inl]
  have e1:(((Bb y f).filter (inl lanes k)).filter fun c=>([]++(Bb y f).filter (inl lanes k)).any fun b=>decide (m c≤m b) && decide (BY y b<BY y c)).length=(((Bb y f).filter (inl lanes k)).filter (Jf y lanes f m)).length:=EO fun c hc=>by
    have hc':=(memA c).1 hc
    rw [List.nil_append,Bool.eq_iff_iff,List.any_eq_true]
    unfold Jf
    rw [List.any_eq_true]
    constructor
    · rintro⟨b,hb,h⟩
      have hb':=(memA b).1 hb
      exact⟨b,hb'.1.1,by simp only [Bool.and_eq_true,decide_eq_true_eq] at h; simp [hb'.1.2,hb'.2,hc'.2,h.1,h.2]⟩
    · rintro⟨b,hb,h⟩
      simp only [Bool.and_eq_true,decide_eq_true_eq,Bool.not_eq_true',beq_iff_eq,hc'.1.2,Bool.false_or] at h
      exact⟨b,(memA b).2 ⟨⟨hb,h.1⟩,by rw [h.2.1,hc'.2]⟩,by simp [h.2.2.1,h.2.2.2]⟩
  have e2:((((Ai y.buses.length).filter f).filter (inl lanes k)).filter fun c=>decide (m c≤Ig m ([]++(Bb y f).filter (inl lanes k)))).length=((((Ai y.buses.length).filter f).filter (inl lanes k)).filter (Jf y lanes f m)).length:=EO fun c hc=>by
    rw [List.mem_filter,List.mem_filter] at hc
    have hl:AC lanes c=k:=by simpa [inl] using hc.2
    rw [List.nil_append,Bool.eq_iff_iff,decide_eq_true_eq,PB (hm c)]
    unfold Jf
    rw [List.any_eq_true]
    constructor
    · rintro⟨b,hb,h⟩
      have hb':=(memA b).1 hb
      exact⟨b,hb'.1.1,by simp [hb'.1.2,hb'.2,hl,h,hc.1.2]⟩
    · rintro⟨b,hb,h⟩
      simp only [Bool.and_eq_true,decide_eq_true_eq,Bool.not_eq_true',beq_iff_eq] at h
      exact⟨b,(memA b).2 ⟨⟨hb,h.1⟩,by rw [h.2.1,hl]⟩,h.2.2.1⟩
  rw [e1,e2]
  omega
theorem PC (y:Ag) (lanes:List Int) (f:Int→Bool) (k:Int):(Cd y lanes f k).buses.Perm ((Ai y.buses.length).filter (inl lanes k)):=by
  unfold Cd
  simp only
  rw [← List.filter_append]
  refine List.Perm.filter _ ?_
  refine List.Perm.trans (List.Perm.append_right _ (D0 _ (Mb y f))) ?_
  unfold Mb
  refine List.Perm.trans List.perm_append_comm ?_
  exact List.filter_append_perm f _
def NC (y:Ag) (lanes:List Int) (f:Int→Bool) (m:Int→Int) (ks:List Int):Int:=(ks.map fun k=>Ic (Cd y lanes f k).down m (Cd y lanes f k).buses 0 (-1)).sum
theorem PD {y:Ag} (hd:FH [] (y.buses.map (·.turn))=false) (lanes:List Int) (f:Int→Bool) (m:Int→Int) (hm:∀ b,0≤m b):∀ r:Nat,
    NC y lanes f m (Ai r)=((((Ai y.buses.length).filter (Jf y lanes f m)).filter fun c=>decide (AC lanes c<(r:Int)) && decide (0≤AC lanes c)).length:Int)
  | 0=>by
    have:((Ai y.buses.length).filter (Jf y lanes f m)).filter (fun c=>decide (AC lanes c<((0:Nat):Int)) && decide (0≤AC lanes c))=[]:=by
      rw [List.filter_eq_nil_iff]
      intro c _
      simp
    rw [this]
    rfl
  | r+1=>by
    have ih:=PD hd lanes f m hm r
    rw [BT]
    unfold NC at ih ⊢
    rw [List.map_append,List.sum_append,ih,List.map_cons,List.map_nil,List.sum_cons,List.sum_nil,RR hd lanes f m hm]
    rw [((PC y lanes f (r:Int)).filter (Jf y lanes f m)).length_eq]
    have hst:∀ s:List Int,(s.filter fun c=>decide (AC lanes c<((r+1:Nat):Int)) && decide (0≤AC lanes c)).length=(s.filter fun c=>decide (AC lanes c<(r:Int)) && decide (0≤AC lanes c)).length+(s.filter (inl lanes (r:Int))).length:=by
      intro s
      induction s with
      | nil=>rfl
      | cons c s ih =>
        rw [List.filter_cons,List.filter_cons,List.filter_cons]
        by_cases h1:AC lanes c=(r:Int)
        · rw [if_pos (by simp; omega),if_neg (by simp; omega),if_pos (by simp [inl,h1])]
          simp only [List.length_cons]
          omega
        · rw [if_neg (c:=inl lanes (r:Int) c=true) (by simp [inl,h1])]
          by_cases h2:AC lanes c<(r:Int)∧0≤AC lanes c
          · rw [if_pos (by simp; omega),if_pos (by simp; omega)]
            simp only [List.length_cons]
            omega
          · rw [if_neg (by simp; omega),if_neg (by simp; omega)]
            exact ih
    have hcm:((Ai y.buses.length).filter (Jf y lanes f m)).filter (inl lanes (r:Int))=((Ai y.buses.length).filter (inl lanes (r:Int))).filter (Jf y lanes f m):=by
      rw [List.filter_filter,List.filter_filter]
      exact List.filter_congr fun c _=>Bool.and_comm _ _
    rw [hst,hcm]
    omega
theorem PE {y:Ag} {lanes:List Int} (hd:FH [] (y.buses.map (·.turn))=false) (hin:∀ b∈Ai y.buses.length,DT (AC lanes b) 0 ((y.room.length:Int)-1)=true) (f:Int→Bool) (m:Int→Int) (hm:∀ b,0≤m b) :
    NC y lanes f m (Ai y.room.length)=(((Ai y.buses.length).filter (Jf y lanes f m)).length:Int):=by
  rw [PD hd lanes f m hm,List.filter_eq_self.2]
  intro c hc
  have:=AY.1 (hin c (List.mem_filter.1 hc).1)
  simp
  omega
theorem Sv {y:Ag} (lanes:List Int) (f:Int→Bool) (m:Int→Int) (hr:∀ b∈Ai y.buses.length,(Ao y b).lo≤m b∧m b≤(Ao y b).hi):∀ ks:List Int,NC y lanes f m ks≤JA y (ks.map (Cd y lanes f))
  | []=>Int.le_refl _
  | k::ks=>by
    have ih:=Sv lanes f m hr ks
    unfold NC JA at ih ⊢
    simp only [List.map_cons,List.sum_cons]
    have h1:=Ro (y:=y) (Cd y lanes f k).down m (Cd y lanes f k).buses 0 (-1) fun b hb=>hr b (DV.1 hb).1
    rw [← QL] at h1
    have h2:(Hk y (Cd y lanes f k).down (Cd y lanes f k).buses 0 (-1)).many=(BZ y (Cd y lanes f k)).many:=rfl
    omega
theorem Kd (f:AN):∀ (l:List Int)(w:An)(b:Int),(∀ c∈l,0≤c∧c<8)→0≤b→b<8→BG (MC f l w) b=if b∈l then BG f.tm b else BG w b
  | [],w,b,_,_,_=>by simp [MC]
  | c::r,w,b,h,h0,h8=>by
    have hc:=h c (by simp)
    have ih:=Kd f r (Su w c (BG f.tm c)) b (fun d hd=>h d (by simp [hd])) h0 h8
    unfold MC at ih ⊢
    rw [List.foldl_cons,ih,Ie _ hc.1 hc.2 h0 h8]
    by_cases h1:b∈r
    · rw [if_pos h1,if_pos (by simp [h1])]
    · by_cases h2:b=c
      · subst h2
        rw [if_neg h1,if_pos rfl,if_pos (by simp)]
      · rw [if_neg h1,if_neg h2,if_neg (by simp [h1,h2])]
theorem L6 {y:Ag} (hy:y.buses.length≤8) (lanes:List Int) (f:Int→Bool) {b:Int} (hb:b∈Ai y.buses.length):∀ (ks:List Int)(w:An),
    BG (Gl y (ks.map (Cd y lanes f)) w) b=if AC lanes b∈ks then BG (BZ y (Cd y lanes f (AC lanes b))).tm b else BG w b
  | [],w=>by simp [Gl]
  | k::ks,w=>by
    have hbr:=Aq.1 hb
    have ih:=L6 hy lanes f hb ks (MC (BZ y (Cd y lanes f k)) (Cd y lanes f k).buses w)
    unfold Gl at ih ⊢
    rw [List.map_cons,List.foldl_cons,ih,Kd _ _ _ _ (fun c hc=>by have:=Aq.1 (DV.1 hc).1; omega) (by omega) (by omega)]
    by_cases h1:AC lanes b∈ks
    · rw [if_pos h1,if_pos (by simp [h1])]
    · by_cases h2:AC lanes b=k
      · rw [if_neg h1,if_pos (DV.2 ⟨hb,by simp [inl,h2]⟩),if_pos (by simp [h2]),h2]
      · rw [if_neg h1,if_neg (fun hq=>h2 (by simpa [inl] using (DV.1 hq).2)),if_neg (by simp [h1,h2])]
theorem NT (y:Ag) (lanes:List Int) (f:Int→Bool) (k:Int):(Cd y lanes f k).buses.Nodup :=
  (PC y lanes f k).nodup_iff.2 (List.Pairwise.filter _ (CK _))
def Ih (y:Ag) (lanes:List Int) (f:Int→Bool) (b:Int):Int:=BG (Gm y lanes f) b
theorem Rp {y:Ag} (hy:y.buses.length≤8) {lanes:List Int} (hin:∀ b∈Ai y.buses.length,DT (AC lanes b) 0 ((y.room.length:Int)-1)=true) (f:Int→Bool) {b:Int} (hb:b∈Ai y.buses.length) :
    Ih y lanes f b=BG (BZ y (Cd y lanes f (AC lanes b))).tm b:=by
  unfold Ih Gm BQ Er
  rw [L6 hy lanes f hb,if_pos]
  have:=AY.1 (hin b hb)
  exact Aq.2 ⟨this.1,by omega⟩
theorem FN {y:Ag} (hy:y.buses.length≤8) (hv:y.buses.all CD=true) {lanes:List Int} (hin:∀ b∈Ai y.buses.length,DT (AC lanes b) 0 ((y.room.length:Int)-1)=true) (f:Int→Bool) {b:Int} (hb:b∈Ai y.buses.length) :
    (Ao y b).lo≤Ih y lanes f b∧Ih y lanes f b≤(Ao y b).hi:=by
  rw [Rp hy hin f hb]
  have hk:=CU hv (B2.2 hb)
  have h:=(KW y (Cd y lanes f (AC lanes b)).down (Cd y lanes f (AC lanes b)).buses 0 (-1) (NT y lanes f _) (fun c hc=>by have:=Aq.1 (DV.1 hc).1; omega)).2 b (DV.2 ⟨hb,by simp [inl]⟩)
  unfold BZ
  rcases h with h | h <;> rw [h] <;> omega
theorem KX {y:Ag} (lanes:List Int) (f:Int→Bool) {m m':Int→Int} (h:∀ b∈Ai y.buses.length,m b=m' b) (ks:List Int):NC y lanes f m ks=NC y lanes f m' ks:=by
  unfold NC
  congr 1
  exact List.map_congr_left fun k _=>Hm _ _ _ _ fun b hb=>h b (DV.1 hb).1
theorem Sw {y:Ag} (hy:y.buses.length≤8) {lanes:List Int} (hin:∀ b∈Ai y.buses.length,DT (AC lanes b) 0 ((y.room.length:Int)-1)=true) (f:Int→Bool):NC y lanes f (Ih y lanes f) (Ai y.room.length)=EN y lanes f:=by
  unfold NC EN JA BQ Er
  rw [List.map_map]
  congr 1
  refine List.map_congr_left fun k _=>?_
  have h:=(KW y (Cd y lanes f k).down (Cd y lanes f k).buses 0 (-1) (NT y lanes f k) (fun c hc=>by have:=Aq.1 (DV.1 hc).1; omega)).1
  show _=(BZ y (Cd y lanes f k)).many
  unfold BZ
  rw [← h]
  refine Hm _ _ _ _ fun b hb=>?_
  have hb':=DV.1 hb
  rw [Rp hy hin f hb'.1,show AC lanes b=k by simpa [inl] using hb'.2]
  rfl
theorem Tk {y:Ag} (hd:FH [] (y.buses.map (·.turn))=false) {lanes:List Int} (hin:∀ b∈Ai y.buses.length,DT (AC lanes b) 0 ((y.room.length:Int)-1)=true) (f:Int→Bool) (m:Int→Int) (hm:∀ b,0≤m b)
    (hr:∀ b∈Ai y.buses.length,(Ao y b).lo≤m b∧m b≤(Ao y b).hi):(((Ai y.buses.length).filter (Jf y lanes f m)).length:Int)≤EN y lanes f:=by
  rw [← PE hd hin f m hm]
  exact Sv lanes f m hr _
end Go.Proofs.Ythcbemnflgjadaa
namespace Go.Proofs.Ythcbemnflgjadaa
open Go Go.RowKit
def NU (f:Int→Bool) (l:List Int):Int→Bool:=l.foldl Mc f
theorem PF:∀ (l:List Int)(f:Int→Bool)(x:Int),NU f l x=(f x || A7 l x)
  | [],f,x=>by simp [NU,A7]
  | b::r,f,x=>by
    have ih:=PF r (Mc f b) x
    unfold NU at ih ⊢
    rw [List.foldl_cons,ih]
    unfold Mc A7
    by_cases h:x=b
    · subst h; simp
    · rw [if_neg h,List.contains_cons,show(x == b)=false by simp [h],Bool.false_or]
theorem PG (l:List Int):NU (fun _=>false) l=A7 l:=funext fun x=>by rw [PF,Bool.false_or]
theorem MG (N:Nat):∀ (r m:Nat)(f:Int→Bool)(l:List Int),l≠[]→l.Pairwise (· < ·)→(∀ b∈l,((N-r:Nat):Int)≤b∧b<N)→l.length≤m→r≤N→NU f l∈HK N m r f
  | 0,m,f,[],hl,_,_,_,_=>absurd rfl hl
  | 0,m,f,b::l,_,_,hm,_,_=>by have:=hm b (by simp); omega
  | r+1,m,f,[],hl,_,_,_,_=>absurd rfl hl
  | r+1,0,f,b::l,_,_,_,h,_=>by simp at h
  | r+1,m+1,f,b::l,_,hp,hm,hl,hr=>by
    rw [List.pairwise_cons] at hp
    have hb:=hm b (by simp)
    rw [HK,List.mem_append]
    by_cases h:b=((N-(r+1):Nat):Int)
    · left
      rw [← h]
      cases l with
      | nil=>exact List.mem_cons_self
      | cons c l' =>
        refine List.mem_cons_of_mem _ (MG N r m (Mc f b) (c::l') (by simp) hp.2 (fun d hd=>?_) (by simp at hl ⊢; omega) (by omega))
        have h1:=hp.1 d hd
        have h2:=hm d (by simp at hd ⊢; exact .inr hd)
        omega
    · right
      refine MG N r (m+1) f (b::l) (by simp) (List.pairwise_cons.2 hp) (fun d hd=>?_) hl (by omega)
      rcases List.mem_cons.1 hd with rfl | hd
      · omega
      · have h1:=hp.1 d hd
        have h2:=hm d (by simp [hd])
        omega
theorem KY (N:Nat):∀ (r m:Nat)(f g:Int→Bool),g∈HK N m r f→r≤N→∃ l,g=NU f l∧l.Pairwise (· < ·)∧(∀ b∈l,((N-r:Nat):Int)≤b∧b<N)∧l.length≤m
  | 0,m,f,g,h,_=>by cases m <;> simp [HK] at h
  | r+1,0,f,g,h,_=>by simp [HK] at h
  | r+1,m+1,f,g,h,hr=>by
    rw [HK,List.mem_append] at h
    rcases h with h | h
    · rcases List.mem_cons.1 h with rfl | h
      · exact⟨[((N-(r+1):Nat):Int)],rfl,List.pairwise_singleton _ _,fun b hb=>by simp at hb; subst hb; omega,by simp⟩
      · obtain⟨l,e,h1,h2,h3⟩:=KY N r m _ g h (by omega)
        refine⟨((N-(r+1):Nat):Int)::l,e,List.pairwise_cons.2 ⟨fun b hb=>?_,h1⟩,fun b hb=>?_,by simp; omega⟩
        · have:=h2 b hb; omega
        · rcases List.mem_cons.1 hb with rfl | hb
          · omega
          · have:=h2 b hb; omega
    · obtain⟨l,e,h1,h2,h3⟩:=KY N r (m+1) f g h (by omega)
      exact⟨l,e,h1,fun b hb=>by have:=h2 b hb; omega,h3⟩
theorem QN {y:Ag} {l:List Int} (h:Dx y l=true):A7 l∈Bl y:=by
  obtain⟨h1,h2,h3⟩:=EL h
  unfold Bl
  by_cases hl:l=[]
  · subst hl
    rw [show A7 []=fun _=>false from funext fun x=>by simp [A7]]
    exact List.mem_cons_self
  · rw [← PG]
    refine List.mem_cons_of_mem _ (MG _ _ _ _ l hl h1 (fun b hb=>?_) (by omega) (Nat.le_refl _))
    have:=Aq.1 (h2 b hb)
    omega
theorem PH {y:Ag} (hb:DT y.broken 0 2=true) {f:Int→Bool} (h:f∈Bl y):∃ l,f=A7 l∧Dx y l=true:=by
  have hb':=AY.1 hb
  unfold Bl at h
  rcases List.mem_cons.1 h with rfl | h
  · exact⟨[],funext fun x=>by simp [A7],M8 List.Pairwise.nil (by simp) (by simpa using hb'.1)⟩
  · obtain⟨l,e,h1,h2,h3⟩:=KY _ _ _ _ _ h (Nat.le_refl _)
    refine⟨l,by rw [e,PG],M8 h1 (fun b hb=>?_) (by omega)⟩
    have:=h2 b hb
    rw [Aq]
    omega
theorem KZ {R:Int→Int→Prop} {l:List Int} (hp:l.Pairwise R) {a b:Int} (ha:a∈l) (hb:b∈l) (h:CE l a<CE l b):R a b:=by
  unfold CE at h
  simp only [List.contains_iff_mem,ha,hb,if_true] at h
  have q1:=List.idxOf_lt_length_iff.2 ha
  have q2:=List.idxOf_lt_length_iff.2 hb
  have:=List.pairwise_iff_getElem.1 hp (l.idxOf a) (l.idxOf b) q1 q2 (by omega)
  rwa [List.getElem_idxOf q1,List.getElem_idxOf q2] at this
theorem RS {y:Ag} {order:List Int} (h:Ei y order=true) {a b:Int} (ha:a∈Ai y.buses.length) (hb:b∈Ai y.buses.length) (hp:CE order a<CE order b):(Ao y a).lo≤(Ao y b).hi:=by
  have hO:=EK h
  unfold Ei at h
  rw [Bool.and_eq_true] at h
  exact KZ (M9 y order [] h.2).1 ((hO.mem a).2 ha) ((hO.mem b).2 hb) hp
theorem Tl {y:Ag} {order:List Int} (hO:OG y order) (hp:order.Pairwise fun a b=>(Ao y a).lo≤(Ao y b).hi):Ei y order=true:=by
  unfold Ei
  rw [decide_eq_true hO.len,Bool.true_and]
  exact M4 y order [] (by rw [List.nil_append]; exact hO.nd) (fun b hb=>(hO.mem b).1 hb) (by rw [List.nil_append]; exact hp)
def Ke (y:Ag) (order:List Int) (c:Int):Int:=HS y ((Ai y.buses.length).filter fun b=>decide (CE order b≤CE order c))
theorem Kf {y:Ag} {l:List Int} {x:Int} (hx:0<x):x≤HS y l↔∃ k∈l,x≤(Ao y k).lo:=by
  have h:=Pq y (x-1) (by omega) l
  constructor
  · intro h1
    rw [decide_eq_true (show x-1<HS y l by omega)] at h
    obtain⟨k,hk,h2⟩:=List.any_eq_true.1 h.symm
    exact⟨k,hk,by have:=of_decide_eq_true h2; omega⟩
  · rintro⟨k,hk,h1⟩
    have:decide (x-1<HS y l)=true:=by
      rw [h,List.any_eq_true]
      exact⟨k,hk,decide_eq_true (by omega)⟩
    have:=of_decide_eq_true this
    omega
theorem IT (y:Ag):∀ l:List Int,∀ a,a≤l.foldl (fun m b=>max m (Ao y b).lo) a
  | [],a=>Int.le_refl _
  | b::r,a=>by
    have:=IT y r (max a (Ao y b).lo)
    rw [List.foldl_cons]
    omega
theorem QO {y:Ag} (hv:y.buses.all CD=true) {order:List Int} (h:Ei y order=true) {c:Int} (hc:c∈Ai y.buses.length):(Ao y c).lo≤Ke y order c∧Ke y order c≤(Ao y c).hi:=by
  have hk:=CU hv (B2.2 hc)
  have h0:0≤Ke y order c:=IT y _ 0
  constructor
  · by_cases hq:0<(Ao y c).lo
    · exact(Kf hq).2 ⟨c,List.mem_filter.2 ⟨hc,by simp⟩,Int.le_refl _⟩
    · omega
  · by_cases hq:(Ao y c).hi<Ke y order c
    · obtain⟨k,hk',h1⟩:=(Kf (show 0<(Ao y c).hi+1 by omega)).1 (show(Ao y c).hi+1≤Ke y order c by omega)
      rw [List.mem_filter,decide_eq_true_eq] at hk'
      have hO:=EK h
      by_cases he:CE order k=CE order c
      · have:=P1 ((hO.mem k).2 hk'.1) ((hO.mem c).2 hc) he
        subst this
        omega
      · have:=RS h hk'.1 hc (by omega)
        omega
    · omega
theorem RT {y:Ag} {order:List Int} {c b:Int} (h:CE order c≤CE order b):Ke y order c≤Ke y order b:=by
  have h0:0≤Ke y order b:=IT y _ 0
  by_cases hq:0<Ke y order c
  · obtain⟨k,hk,h1⟩:=(Kf hq).1 (Int.le_refl (Ke y order c))
    rw [List.mem_filter,decide_eq_true_eq] at hk
    exact(Kf hq).2 ⟨k,List.mem_filter.2 ⟨hk.1,decide_eq_true (by omega)⟩,h1⟩
  · omega
theorem Md {l:List Int} {p q:Int→Bool} (h:∀ c∈l,p c=true→q c=true):(l.filter p).length≤(l.filter q).length:=by
  rw [← List.countP_eq_length_filter,← List.countP_eq_length_filter]
  exact List.countP_mono_left h
theorem Sx {y:Ag} (hf:Bc y=0) {lanes:List Int} (hl:Be y lanes=true) {order broken:List Int} (ho:Ei y order=true) (hb:Dx y broken=true):((CV y lanes order broken).length:Int)≤AJ y lanes:=by
  obtain⟨v1,v0,v2,v3,v4,v5,v6⟩:=Cb hf
  obtain⟨l1,l2⟩:=DF hl
  have h1:=Tk v6 l2 (A7 broken) (Ke y order) (fun b=>IT y _ 0) fun b hb=>QO v5 ho hb
  have h2:=(Ib y lanes (Bl y) (-1,FL,As fun _=>false)).2 _ (QN hb)
  have h3:(CV y lanes order broken).length≤((Ai y.buses.length).filter (Jf y lanes (A7 broken) (Ke y order))).length:=by
    have e:CV y lanes order broken=(Ai y.buses.length).filter (A7 (IQ y lanes order broken).flatten):=rfl
    rw [e]
    refine Md fun c hc h=>?_
    have hm:c∈CV y lanes order broken:=by rw [e,List.mem_filter]; exact⟨hc,h⟩
    obtain⟨_,b,d1,d2,d3,d4⟩:=(M7 v6 lanes order broken c).1 hm
    unfold Pz at d3
    rw [Bool.and_eq_true,beq_iff_eq,decide_eq_true_eq] at d3
    unfold Jf
    rw [List.any_eq_true]
    refine⟨b,d1,?_⟩
    have hmn:Ke y order c≤Ke y order b:=RT (by omega)
    rw [d2,d3.1,decide_eq_true hmn]
    cases hq:A7 broken c with
    | true=>simp
    | false=>simp [d4 hq]
  unfold AJ FM
  omega
theorem L7 (y:Ag) (lanes:List Int) (f:Int→Bool):0≤EN y lanes f:=by
  unfold EN JA
  have:∀ cs:List Av,0≤(cs.map fun c=>(BZ y c).many).sum:=by
    intro cs
    induction cs with
    | nil=>simp
    | cons c cs ih =>
      have:=(EM y c.down c.buses 0 (-1)).1
      rw [List.map_cons,List.sum_cons]
      unfold BZ at ih ⊢
      omega
  exact this _
theorem NV (y:Ag) (lanes:List Int):∃ f∈Bl y,FM y lanes=(EN y lanes f,Gm y lanes f,As f):=by
  rcases KV y lanes (Bl y) (-1,FL,As fun _=>false) with h | ⟨f,hf,h⟩
  · exfalso
    have h1:=(Ib y lanes (Bl y) (-1,FL,As fun _=>false)).2 (fun _=>false) List.mem_cons_self
    rw [h] at h1
    have:=L7 y lanes fun _=>false
    simp only at h1
    omega
  · exact⟨f,hf,h⟩
def Ii (y:Ag) (f:Int→Bool) (b:Int):Int:=if f b then 2001 else BY y b
def MH (y:Ag) (lanes:List Int) (f:Int→Bool) (b:Int):Int:=100000*Ih y lanes f b+(8*(2001-Ii y f b)+b)
def Hn (y:Ag) (lanes:List Int) (f:Int→Bool):List Int:=Eo (Cy (MH y lanes f)) (Ai y.buses.length)
def HC (y:Ag) (f:Int→Bool):List Int:=(Ai y.buses.length).filter f
theorem Dd {y:Ag} (hv:y.buses.all CD=true) (f:Int→Bool) {b:Int} (hb:b∈Ai y.buses.length):0≤Ii y f b∧Ii y f b≤2001:=by
  have hk:=CU hv (B2.2 hb)
  unfold Ii BY
  split <;> omega
theorem NW (y:Ag) (lanes:List Int) (f:Int→Bool):OG y (Hn y lanes f):=by
  have hp:=D0 (Cy (MH y lanes f)) (Ai y.buses.length)
  exact⟨hp.nodup_iff.2 (CK _),by unfold Hn; rw [DC,Bj],fun b=>hp.mem_iff⟩
theorem PI {y:Ag} (hy:y.buses.length≤8) (hv:y.buses.all CD=true) {lanes:List Int} (hin:∀ b∈Ai y.buses.length,DT (AC lanes b) 0 ((y.room.length:Int)-1)=true) (f:Int→Bool):Ei y (Hn y lanes f)=true:=by
  have hO:=NW y lanes f
  refine Tl hO (List.Pairwise.imp_of_mem (fun {a b} ha hb h=>?_) (FI (MH y lanes f) (Ai y.buses.length)))
  have ha':=(hO.mem a).1 ha
  have hb':=(hO.mem b).1 hb
  have h1:=FN hy hv hin f ha'
  have h2:=FN hy hv hin f hb'
  have h3:=Dd hv f ha'
  have h4:=Dd hv f hb'
  have h5:=Aq.1 ha'
  have h6:=Aq.1 hb'
  unfold MH at h
  omega
theorem PJ {key:Int→Int} {l:List Int} (hs:l.Pairwise fun a b=>key a≤key b) {a b:Int} (ha:a∈l) (hb:b∈l):(key a<key b→CE l a<CE l b)∧(CE l a<CE l b→key a≤key b):=by
  refine⟨fun h=>?_,fun h=>KZ hs ha hb h⟩
  by_cases hq:CE l a<CE l b
  · exact hq
  · by_cases he:CE l a=CE l b
    · have:=P1 ha hb he
      subst this
      omega
    · have:=KZ hs hb ha (show CE l b<CE l a by omega)
      omega
theorem Kg {y:Ag} {l:List Int} (h:Dx y l=true) (x:Int):A7 (HC y (A7 l)) x=A7 l x:=by
  obtain⟨_,h2,_⟩:=EL h
  rw [Bool.eq_iff_iff,FK,FK]
  unfold HC
  rw [List.mem_filter,FK]
  exact⟨fun h=>h.2,fun h=>⟨h2 x h,h⟩⟩
theorem Jo:∀ n,(Ai n).Pairwise (· < ·)
  | 0=>List.Pairwise.nil
  | n+1=>by
    rw [BT,List.pairwise_append]
    refine⟨Jo n,List.pairwise_singleton _ _,fun a ha b hb=>?_⟩
    have:=Aq.1 ha
    simp at hb
    omega
theorem Sy {y:Ag} {l:List Int} (h:Dx y l=true):Dx y (HC y (A7 l))=true:=by
  obtain⟨h1,h2,h3⟩:=EL h
  refine M8 (List.Pairwise.filter _ (Jo _)) (fun b hb=>(List.mem_filter.1 hb).1) ?_
  have hp:(HC y (A7 l)).Perm l:=(List.perm_ext_iff_of_nodup (List.Pairwise.filter _ (CK _)) (h1.imp fun h=>Int.ne_of_lt h)).2 fun x=>by
    have e:=Kg h x
    unfold HC at e
    rw [← FK,e,FK]
  rw [show(HC y (A7 l)).length=l.length from hp.length_eq]
  exact h3
theorem PK {y:Ag} (hf:Bc y=0) {lanes:List Int} (hl:Be y lanes=true) {l:List Int} (hb:Dx y l=true) :
    ((CV y lanes (Hn y lanes (A7 l)) (HC y (A7 l))).length:Int)=EN y lanes (A7 l):=by
  obtain⟨v1,v0,v2,v3,v4,v5,v6⟩:=Cb hf
  obtain⟨l1,l2⟩:=DF hl
  have hO:=NW y lanes (A7 l)
  have hr:∀ b∈Ai y.buses.length,(Ao y b).lo≤Ih y lanes (A7 l) b∧Ih y lanes (A7 l) b≤(Ao y b).hi:=fun b hb=>FN v2 v5 l2 _ hb
  have hm0:∀ b,0≤(fun b=>max 0 (Ih y lanes (A7 l) b)) b:=fun b=>by simp only; omega
  have hcg:=KX (y:=y) lanes (A7 l) (m:=fun b=>max 0 (Ih y lanes (A7 l) b)) (m':=Ih y lanes (A7 l)) (fun b hb=>by
    have h1:=hr b hb
    have h2:=CU v5 (B2.2 hb)
    omega) (Ai y.room.length)
  rw [← Sw v2 l2,← hcg,PE v6 l2 _ _ hm0]
  congr 1
  have e:CV y lanes (Hn y lanes (A7 l)) (HC y (A7 l))=(Ai y.buses.length).filter (A7 (IQ y lanes (Hn y lanes (A7 l)) (HC y (A7 l))).flatten):=rfl
  rw [e]
  refine EO fun c hc=>?_
  have hm:=M7 v6 lanes (Hn y lanes (A7 l)) (HC y (A7 l)) c
  rw [e,List.mem_filter] at hm
  rw [Bool.eq_iff_iff]
  constructor
  · intro h
    obtain⟨_,b,d1,d2,d3,d4⟩:=hm.1 ⟨hc,h⟩
    rw [Kg hb] at d2 d4
    unfold Pz at d3
    rw [Bool.and_eq_true,beq_iff_eq,decide_eq_true_eq] at d3
    have hk:=(PJ (FI (MH y lanes (A7 l)) (Ai y.buses.length)) ((hO.mem c).2 hc) ((hO.mem b).2 d1)).2 d3.2
    have t1:=Dd v5 (A7 l) hc
    have t2:=Dd v5 (A7 l) d1
    have r1:=Aq.1 hc
    have r2:=Aq.1 d1
    unfold MH at hk
    unfold Jf
    rw [List.any_eq_true]
    refine⟨b,d1,?_⟩
    have hmn:max 0 (Ih y lanes (A7 l) c)≤max 0 (Ih y lanes (A7 l) b):=by omega
    rw [d2,d3.1,decide_eq_true hmn]
    cases hq:A7 l c with
    | true=>simp
    | false=>simp [d4 hq]
  · intro h
    refine(hm.2 ⟨hc,?_⟩).2
    unfold Jf at h
    obtain⟨b,d1,d⟩:=List.any_eq_true.1 h
    simp only [Bool.and_eq_true,Bool.not_eq_true',beq_iff_eq,decide_eq_true_eq,Bool.or_eq_true] at d
    obtain⟨d2,d3,d4,d5⟩:=d
    have t1:=Dd v5 (A7 l) hc
    have t2:=Dd v5 (A7 l) d1
    have r1:=Aq.1 hc
    have r2:=Aq.1 d1
    have m1:=hr c hc
    have m2:=hr b d1
    have k1:=CU v5 (B2.2 hc)
    have k2:=CU v5 (B2.2 d1)
    refine⟨b,d1,by rw [Kg hb]; exact d2,?_,fun hq=>?_⟩
    · unfold Pz
      rw [Bool.and_eq_true,beq_iff_eq,decide_eq_true_eq]
      refine⟨d3.symm,(PJ (FI (MH y lanes (A7 l)) (Ai y.buses.length)) ((hO.mem c).2 hc) ((hO.mem b).2 d1)).1 ?_⟩
      have:Ii y (A7 l) b<Ii y (A7 l) c:=by
        unfold Ii
        rw [d2]
        rcases d5 with d5 | d5
        · rw [d5]
          unfold BY
          simp
          omega
        · unfold BY at d5 ⊢
          cases A7 l c <;> simp <;> omega
      unfold MH
      omega
    · rw [Kg hb] at hq
      rcases d5 with d5 | d5
      · rw [hq] at d5; cases d5
      · exact d5
end Go.Proofs.Ythcbemnflgjadaa
namespace Go.Proofs.Ythcbemnflgjadaa
open Go Go.RowKit
def MI (r:Nat) (g:Int→Int):Int:=((Ai r).map g).sum
theorem EP (r:Nat) (g:Int→Int):MI (r+1) g=MI r g+g (r:Int):=by
  unfold MI
  rw [BT,List.map_append,List.sum_append]
  simp
theorem PL (g h:Int→Int):∀ r,MI r (fun k=>g k+h k)=MI r g+MI r h
  | 0=>rfl
  | r+1=>by rw [EP,EP,EP,PL g h r]; omega
theorem PM (b:Int) (h0:0≤b):∀ r:Nat,MI r (fun k=>if b=k then 1 else 0)=if b<(r:Int) then 1 else 0
  | 0=>by rw [if_neg (by omega)]; rfl
  | r+1=>by
    rw [EP,PM b h0 r]
    by_cases h1:b=(r:Int)
    · rw [if_neg (by omega),if_pos h1,if_pos (by omega)]; omega
    · by_cases h2:b<(r:Int)
      · rw [if_pos h2,if_neg h1,if_pos (by omega)]; omega
      · rw [if_neg h2,if_neg h1,if_neg (by omega)]; omega
theorem Rq {g h:Int→Int}:∀ r:Nat,(∀ k∈Ai r,g k≤h k)→MI r g≤MI r h
  | 0,_=>Int.le_refl _
  | r+1,H=>by
    have h1:=Rq r fun k hk=>H k (by rw [Aq] at hk ⊢; omega)
    have h2:=H (r:Int) (by rw [Aq]; omega)
    rw [EP,EP]
    omega
theorem La (r:Nat):∀ l:List Int,(∀ b∈l,b∈Ai r)→MI r (fun k=>(l.count k:Int))=(l.length:Int)
  | [],_=>by
    have:∀ m,MI m (fun k=>(([]:List Int).count k:Int))=0:=fun m=>by
      induction m with
      | zero=>rfl
      | succ m ih=>rw [EP,ih]; rfl
    exact this r
  | b::l,h=>by
    have hb:=Aq.1 (h b (by simp))
    have e:(fun k:Int=>((b::l).count k:Int))=fun k=>(l.count k:Int)+(if b=k then 1 else 0):=funext fun k=>by
      rw [List.count_cons]
      by_cases hk:b=k
      · rw [if_pos hk,if_pos (by simp [hk])]; omega
      · rw [if_neg hk,if_neg (by simp [hk])]; omega
    rw [e,PL,La r l fun c hc=>h c (by simp [hc]),PM b hb.1,if_pos hb.2,List.length_cons]
    omega
theorem Kh (room:List Int):∀ (l pre:List Int),Cw room pre l=true→∀ k,(pre.count k:Int)≤AS room k→((pre++l).count k:Int)≤AS room k
  | [],pre,_,k,h=>by simpa using h
  | b::r,pre,hR,k,h=>by
    unfold Cw at hR
    simp only [Bool.and_eq_true,decide_eq_true_eq] at hR
    have:=Kh room r (pre++[b]) hR.2.2 k (by
      rw [DD]
      by_cases hk:k=b
      · rw [if_pos hk,hk]; omega
      · rw [if_neg hk]; omega)
    simpa using this
theorem RU {y:Ag} (hr:(y.room.all fun r=>DT r 0 8)=true) {acc:List Int} (hl:acc.length<y.buses.length) (hm:∀ b∈acc,b∈Ai y.room.length) (hf:∀ j∈Ai y.room.length,AS y.room j≤(acc.count j:Int)) (l:List Int):Be y l=false:=by
  cases hq:Be y l with
  | false=>rfl
  | true =>
    exfalso
    unfold Be at hq
    simp only [Bool.and_eq_true,decide_eq_true_eq] at hq
    have h1:∀ b∈l,b∈Ai y.room.length:=fun b hb=>by
      have:=AY.1 (IS _ _ _ hq.2 b hb)
      rw [Aq]; omega
    have h2:=La y.room.length l h1
    have h3:=La y.room.length acc hm
    have h4:=Rq (g:=fun k=>(l.count k:Int)) (h:=fun k=>(acc.count k:Int)) y.room.length fun k hk=>by
      have hk':=Aq.1 hk
      have h5:=Kh _ _ _ hq.2 k (by have:=(GE hr (show DT k 0 ((y.room.length:Int)-1)=true by rw [AY]; omega)).1; simpa using this)
      have h6:=hf k hk
      rw [List.nil_append] at h5
      omega
    omega
theorem Ij (y:Ag) (x14:List Int) (g:Int→Int) (hr:0<y.room.length) (hm:y.room.length≤1000) (t:Int) (ht:0≤t):∀ (n k:Nat)(l:Int),y.room.length<n+k→k≤y.room.length→l=(t+k) % (y.room.length:Int)→(∀ i:Nat,i<k→AS y.room ((t+i) % (y.room.length:Int))≤g ((t+i) % (y.room.length:Int))) →
    ∃ o,CO n y x14 (Dw y.room.length g) (k:Int) l=some o∧0≤o∧o<(y.room.length:Int)∧(g o<AS y.room o∨∀ j∈Ai y.room.length,AS y.room j≤g j)
  | 0,k,l,h,hk,_,_=>by omega
  | n+1,k,l,h,hk,he,hv=>by
    have hR:(0:Int)<(y.room.length:Int):=by omega
    have h0:0≤l:=by rw [he]; exact Int.emod_nonneg _ (by omega)
    have h1:l<(y.room.length:Int):=by rw [he]; exact Int.emod_lt_of_pos _ hR
    have hbt:DT l 0 ((y.room.length:Int)-1)=true:=by rw [AY]; omega
    have er:B6 y.room l=some (AS y.room l):=by
      have:=F9 (g:=fun k=>y.room.getD k.toNat 0) hbt
      rwa [← HX y.room] at this
    rw [CO,B4]
    by_cases hx:k<y.room.length
    · simp only [hx,decide_true,cond_true,F9 hbt,er,Option.bind_some]
      by_cases hq:g l≥AS y.room l
      · rw [decide_eq_true hq]
        simp only [cond_true,Rn (show((y.room.length:Nat):Int)≠0 by omega),Option.bind_some]
        have w1:IntKind.i64.wrap (l+1)=l+1:=He (by omega) (by omega)
        rw [DB k (by omega),w1,Int.tmod_eq_emod_of_nonneg (by omega)]
        refine Ij y x14 g hr hm t ht n (k+1) _ (by omega) (by omega) ?_ fun i hi=>?_
        · rw [he,Int.emod_add_emod]
          congr 1
          omega
        · by_cases hik:i=k
          · subst hik; rw [← he]; exact hq
          · exact hv i (by omega)
      · rw [decide_eq_false hq]
        exact⟨l,rfl,h0,h1,.inl (by omega)⟩
    · have hkR:k=y.room.length:=by omega
      refine⟨l,by simp [hx],h0,h1,.inr fun j hj=>?_⟩
      have hj':=Aq.1 hj
      have q0:0≤(j-t) % (y.room.length:Int):=Int.emod_nonneg _ (by omega)
      have q1:(j-t) % (y.room.length:Int)<(y.room.length:Int):=Int.emod_lt_of_pos _ hR
      have hv':=hv ((j-t) % (y.room.length:Int)).toNat (by omega)
      rw [show((((j-t) % (y.room.length:Int)).toNat:Nat):Int)=(j-t) % (y.room.length:Int) by omega,Int.add_emod_emod,show t+(j-t)=j by omega,Int.emod_eq_of_lt hj'.1 hj'.2] at hv'
      exact hv'
theorem Ik {y:Ag} (hr0:0<y.room.length) (hr:(y.room.all fun r=>DT r 0 8)=true) (hm:y.room.length≤100) (hb:y.buses.length≤100) {words:List (IK .u16)} (hw:St words) (x14:List Int):∀ (n i:Nat)(acc:List Int),400≤n+i→i≤y.buses.length→acc.length=i→Cw y.room [] acc=true →
    ∃ r,CP n y words x14 (Dw y.room.length fun k=>(acc.count k:Int)) acc (i:Int)=some r∧((r=Ex.ret ([],false)∧∀ l,Be y l=false)∨∃ h l,r=Ex.go (h,l)∧l.length=y.buses.length∧Cw y.room [] l=true)
  | 0,i,acc,h,hi,_,_=>by omega
  | n+1,i,acc,h,hi,ha,hR=>by
    rw [CP,B4]
    by_cases hx:i<y.buses.length
    · have w1:IntKind.i64.wrap (5*(i:Int))=5*(i:Int):=He (by omega) (by omega)
      have w2:IntKind.i64.wrap (5*(i:Int)+1)=5*(i:Int)+1:=He (by omega) (by omega)
      simp only [hx,decide_true,cond_true]
      rw [w1,w2,Mn n words hw _ (by omega),Option.bind_some,Rn (show((y.room.length:Nat):Int)≠0 by omega),Option.bind_some]
      have ht:=Ep (GG hw (5*(i:Int)+1)).1 (show(0:Int)<(y.room.length:Int) by omega)
      obtain⟨o,e1,e2,e3,e5⟩:=Ij y x14 (fun k=>(acc.count k:Int)) hr0 (by omega) _ ht.1 n 0 (Int.tmod (wd words (5*(i:Int)+1)) (y.room.length:Int)) (by omega) (by omega) (by rw [show((0:Nat):Int)=0 from rfl,Int.add_zero,Int.emod_eq_of_lt ht.1 ht.2]) (fun j hj=>absurd hj (by omega))
      rw [show((0:Nat):Int)=0 from rfl] at e1
      have hbt:DT o 0 ((y.room.length:Int)-1)=true:=by rw [AY]; omega
      have er:B6 y.room o=some (AS y.room o):=by
        have:=F9 (g:=fun k=>y.room.getD k.toNat 0) hbt
        rwa [← HX y.room] at this
      rw [e1]
      simp only [Option.bind_some,F9 hbt,er]
      by_cases hq:(acc.count o:Int)<AS y.room o
      · have hcl:acc.count o≤100:=Nat.le_trans List.count_le_length (by omega)
        rw [decide_eq_false (show ¬ (acc.count o:Int)≥AS y.room o by omega),cond_false,JR hbt,Option.bind_some,ED _ _ (by simp; omega),Option.bind_some,DB i (by omega),He (by omega) (by omega)]
        have e4:(Dw y.room.length fun x=>if x=o then(acc.count o:Int)+1 else(acc.count x:Int))=Dw y.room.length fun k=>((acc++[o]).count k:Int):=by
          congr 1
          funext x
          rw [DD]
          by_cases hxe:x=o
          · rw [if_pos hxe,if_pos hxe,hxe]
          · rw [if_neg hxe,if_neg hxe]; omega
        rw [e4]
        refine Ik hr0 hr hm hb hw x14 n (i+1) (acc++[o]) (by omega) (by omega) (by simp [ha]) ?_
        rw [Ia,hR,hbt,List.nil_append,decide_eq_true hq]
        rfl
      · rw [decide_eq_true (show(acc.count o:Int)≥AS y.room o by omega),cond_true]
        refine⟨_,rfl,.inl ⟨rfl,RU hr (acc:=acc) (by omega) (fun b hb=>?_) (e5.resolve_left hq)⟩⟩
        have:=AY.1 (IS _ _ _ hR b hb)
        rw [Aq]; omega
    · have:i=y.buses.length:=by omega
      exact⟨Ex.go ((Dw y.room.length fun k=>(acc.count k:Int)),acc),by simp [this],.inr ⟨_,acc,rfl,by omega,hR⟩⟩
theorem PN (n:Nat) {y:Ag} (hr0:0<y.room.length) (hr:(y.room.all fun r=>DT r 0 8)=true) (hm:y.room.length≤100) (hb:y.buses.length≤100) {words:List (IK .u16)} (hw:St words) (hn:400≤n) :
    ∃ l is,FQ n y words=some (l,is)∧(is=true→Be y l=true∧l.length=y.buses.length)∧(is=false→l=[]∧∀ l',Be y l' = false):=by
  unfold FQ
  rw [Uq _ _ (by omega),Option.bind_some]
  obtain⟨r,e1,e2⟩:=Ik hr0 hr hm hb hw (List.replicate y.room.length 0) n 0 [] (by omega) (by omega) rfl rfl
  rw [show((0:Nat):Int)=0 from rfl,show(Dw y.room.length fun k=>(([]:List Int).count k:Int))=List.replicate y.room.length 0 from(Px _).symm] at e1
  rw [e1]
  rcases e2 with⟨rfl,hno⟩ | ⟨h,l,rfl,h1,h2⟩
  · exact⟨[],false,rfl,by simp,fun _=>⟨rfl,hno⟩⟩
  · exact⟨l,true,rfl,fun _=>⟨by unfold Be; rw [decide_eq_true h1,h2]; rfl,h1⟩,by simp⟩
def JD (room:List Int):Nat→List Int→List (List Int)
  | 0,pre=>[pre]
  | r+1,pre=>(Ai room.length).flatMap fun k=>if (pre.count k:Int)<AS room k then JD room r (pre++[k]) else []
theorem MJ (room:List Int):∀ (r:Nat)(pre l:List Int),l∈JD room r pre↔∃ s,l=pre++s∧s.length=r∧Cw room pre s=true
  | 0,pre,l=>by
    rw [JD,List.mem_singleton]
    constructor
    · rintro rfl; exact⟨[],by simp,rfl,rfl⟩
    · rintro⟨s,rfl,h,_⟩
      rw [List.eq_nil_of_length_eq_zero h,List.append_nil]
  | r+1,pre,l=>by
    rw [JD,List.mem_flatMap]
    constructor
    · rintro⟨k,hk,h⟩
      have hk':=Aq.1 hk
      by_cases hq:(pre.count k:Int)<AS room k
      · rw [if_pos hq,MJ room r] at h
        obtain⟨s,rfl,h1,h2⟩:=h
        refine⟨k::s,by simp,by simp [h1],?_⟩
        unfold Cw
        rw [decide_eq_true hq,h2,show DT k 0 ((room.length:Int)-1)=true by rw [AY]; omega]
        rfl
      · rw [if_neg hq] at h; simp at h
    · rintro⟨s,rfl,h1,h2⟩
      cases s with
      | nil=>simp at h1
      | cons k s =>
        unfold Cw at h2
        simp only [Bool.and_eq_true,decide_eq_true_eq] at h2
        obtain⟨h3,h4,h5⟩:=h2
        rw [AY] at h3
        refine⟨k,by rw [Aq]; omega,?_⟩
        rw [if_pos h4,MJ room r]
        exact⟨s,by simp,by simpa using h1,h5⟩
def Il (y:Ag):List (List Int):=JD y.room y.buses.length []
theorem Ho {y:Ag} {l:List Int}:l∈Il y↔Be y l=true:=by
  unfold Il Be
  rw [MJ]
  simp only [List.nil_append,Bool.and_eq_true,decide_eq_true_eq]
  constructor
  · rintro⟨s,rfl,h⟩; exact h
  · intro h; exact⟨l,rfl,h⟩
def T1 (f:List Int→Int) (s:Option (List Int×Int)) (l:List Int):Option (List Int×Int) :=
  match s with
  | none=>some (l,f l)
  | some (b,m)=>if f l<m then some (l,f l) else some (b,m)
def CN (f:List Int→Int) (L:List (List Int)) (s:Option (List Int×Int)):Option (List Int×Int):=L.foldl (T1 f) s
theorem Gn (f:List Int→Int):∀ (L:List (List Int))(b:List Int)(m:Int),m=f b→∃ b',CN f L (some (b,m))=some (b',f b')∧(b' = b∨b'∈L)∧f b'≤m∧∀ l∈L,f b'≤f l
  | [],b,m,h=>⟨b,by unfold CN; rw [← h]; rfl,.inl rfl,by omega,by simp⟩
  | l::L,b,m,h=>by
    unfold CN
    rw [List.foldl_cons]
    unfold T1
    simp only
    by_cases hq:f l<m
    · rw [if_pos hq]
      obtain⟨b',e,h1,h2,h3⟩:=Gn f L l (f l) rfl
      refine⟨b',e,.inr ?_,by omega,fun c hc=>?_⟩
      · rcases h1 with rfl | h1 <;> simp [*]
      · rcases List.mem_cons.1 hc with rfl | hc
        · exact h2
        · exact h3 c hc
    · rw [if_neg hq]
      obtain⟨b',e,h1,h2,h3⟩:=Gn f L b m h
      refine⟨b',e,?_,h2,fun c hc=>?_⟩
      · rcases h1 with h1 | h1
        · exact .inl h1
        · exact .inr (by simp [h1])
      · rcases List.mem_cons.1 hc with rfl | hc
        · omega
        · exact h3 c hc
def FO (y:Ag):Option (List Int×Int):=CN (AJ y) (Il y) none
theorem L8 {y:Ag} (h:FO y=none) (l:List Int):Be y l=false:=by
  unfold FO at h
  cases hL:Il y with
  | nil =>
    cases hq:Be y l with
    | false=>rfl
    | true=>rw [← Ho,hL] at hq; simp at hq
  | cons c L =>
    rw [hL] at h
    obtain⟨b',e,_⟩:=Gn (AJ y) L c (AJ y c) rfl
    rw [show CN (AJ y) (c::L) none=CN (AJ y) L (some (c,AJ y c)) from rfl,e] at h
    cases h
theorem Im {y:Ag} {b:List Int} {m:Int} (h:FO y=some (b,m)):Be y b=true∧m=AJ y b∧∀ l,Be y l=true→m≤AJ y l:=by
  unfold FO at h
  cases hL:Il y with
  | nil=>rw [hL] at h; cases h
  | cons c L =>
    rw [hL] at h
    obtain⟨b',e,h1,h2,h3⟩:=Gn (AJ y) L c (AJ y c) rfl
    rw [show CN (AJ y) (c::L) none=CN (AJ y) L (some (c,AJ y c)) from rfl,e] at h
    cases h
    refine⟨?_,rfl,fun l hl=>?_⟩
    · rw [← Ho,hL]
      rcases h1 with rfl | h1 <;> simp [*]
    · rw [← Ho,hL] at hl
      rcases List.mem_cons.1 hl with rfl | hl
      · exact h2
      · exact h3 l hl
theorem MK {α:Type} (g:α→Int):∀ (bs:List α)(m:Int),m≤bs.foldl (fun m b=>max m (g b)) m∧(∀ b∈bs,g b≤bs.foldl (fun m b=>max m (g b)) m)∧(∀ k,m≤k→(∀ b∈bs,g b≤k)→bs.foldl (fun m b=>max m (g b)) m≤k)
  | [],m=>⟨Int.le_refl _,by simp,fun k h _=>h⟩
  | b::r,m=>by
    obtain⟨h1,h2,h3⟩:=MK g r (max m (g b))
    rw [List.foldl_cons]
    refine⟨by omega,fun c hc=>?_,fun k hk hb=>h3 k (by have:=hb b (by simp); omega) fun c hc=>hb c (by simp [hc])⟩
    rcases List.mem_cons.1 hc with rfl | hc
    · omega
    · exact h2 c hc
theorem L9 {y:Ag} (hf:Bc y=0) {lanes:List Int} (hl:Be y lanes=true):∃ l,Dx y l=true∧FM y lanes=(EN y lanes (A7 l),Gm y lanes (A7 l),As (A7 l)) ∧
    Ei y (Hn y lanes (A7 l))=true∧Dx y (HC y (A7 l))=true∧((CV y lanes (Hn y lanes (A7 l)) (HC y (A7 l))).length:Int)=AJ y lanes:=by
  obtain⟨v1,v0,v2,v3,v4,v5,v6⟩:=Cb hf
  obtain⟨l1,l2⟩:=DF hl
  obtain⟨f,h1,h2⟩:=NV y lanes
  obtain⟨l,rfl,h3⟩:=PH v3 h1
  refine⟨l,h3,h2,PI v2 v5 l2 _,Sy h3,?_⟩
  rw [PK hf hl h3]
  unfold AJ
  rw [h2]
theorem OL {y:Ag} (hf:Bc y=0) {lanes:List Int} (hl:Be y lanes=true):0≤AJ y lanes:=by
  obtain⟨l,_,_,_,_,h⟩:=L9 hf hl
  omega
end Go.Proofs.Ythcbemnflgjadaa
namespace Go.Proofs.Ythcbemnflgjadaa
open Go Go.RowKit
theorem Sz (n:Nat) (l:List Int) (i:Nat) (h:i<l.length) (hl:l.length≤100):BL (n+1) l (i:Int)=bif (l[i] != 0) then some (Ex.ret l[i]) else BL n l ((i+1:Nat):Int):=by
  rw [BL,B4]
  simp only [h,decide_true,cond_true,Dv _ _ h,Option.bind_some]
  rw [DB i (by omega)]
theorem TR (n:Nat) (l:List Int):BL (n+1) l (l.length:Int)=some (Ex.go ()):=by
  rw [BL,B4]
  simp
theorem Uh (n:Nat) (a b c:Int):FP (n+4) [a,b,c]=some (if a≠0 then a else if b≠0 then b else c):=by
  unfold FP
  have h3:=TR n [a,b,c]
  have h2:=Sz (n+1) [a,b,c] 2 (by simp) (by simp)
  have h1:=Sz (n+2) [a,b,c] 1 (by simp) (by simp)
  have h0:=Sz (n+3) [a,b,c] 0 (by simp) (by simp)
  rw [show((([a,b,c]:List Int).length:Nat):Int)=((2+1:Nat):Int) from rfl] at h3
  rw [h3] at h2
  rw [h2] at h1
  rw [h1] at h0
  rw [show((0:Nat):Int)=0 from rfl] at h0
  rw [h0]
  simp only [List.getElem_cons_zero,List.getElem_cons_succ]
  by_cases ha:a=0
  · by_cases hb:b=0
    · by_cases hc:c=0
      · subst ha; subst hb; subst hc; rfl
      · have e:(c != 0)=true:=by simp [hc]
        rw [e]
        subst ha; subst hb
        rfl
    · have e:(b != 0)=true:=by simp [hb]
      rw [e]
      subst ha
      simp [hb,Ex.bind]
  · have e:(a != 0)=true:=by simp [ha]
    rw [e]
    simp [ha,Ex.bind]
theorem LA (y:Ag) (P:An) (f:Int→Bool) (k:Int) (hy:y.buses.length≤8):∀ (n i:Nat),y.buses.length<n+i→i≤y.buses.length →
    C2 n y (P,As f,k) (Ai i) ((Ai i).filter f) (i:Int)=some (Ai y.buses.length,(Ai y.buses.length).filter f)
  | 0,i,h,hi=>by omega
  | n+1,i,h,hi=>by
    rw [C2,B4]
    by_cases hx:i<y.buses.length
    · have h0:(0:Int)≤(i:Int):=by omega
      have h8:(i:Int)<8:=by omega
      have hl:=List.length_filter_le f (Ai i)
      rw [Bj] at hl
      have ih:=LA y P f k hy n (i+1) (by omega) (by omega)
      rw [BT,List.filter_append] at ih
      simp only [hx,decide_true,cond_true,Hh h0 h8,GB f h0 h8,Option.bind_some]
      rw [ED _ _ (by rw [Bj]; simp; omega),Option.bind_some,DB i (by omega)]
      cases hf:f (i:Int) with
      | true =>
        rw [cond_true,ED _ _ (by simp; omega),Option.bind_some]
        rw [show([(i:Int)].filter f)=[(i:Int)] by simp [hf]] at ih
        exact ih
      | false =>
        rw [cond_false]
        rw [show([(i:Int)].filter f)=[] by simp [hf],List.append_nil] at ih
        exact ih
    · have:i=y.buses.length:=by omega
      subst this
      simp
theorem RV (n:Nat) {y:Ag} (hy:y.buses.length≤8) (hv:y.buses.all CD=true) {lanes:List Int} (hin:∀ b∈Ai y.buses.length,DT (AC lanes b) 0 ((y.room.length:Int)-1)=true) (f:Int→Bool) {a b:Int} (ha:a∈Ai y.buses.length) (hb:b∈Ai y.buses.length) :
    ∃ d,Dh (n+4) a b (Gm y lanes f) (fun y0=>BD (n+4) y0 (As f) y)=some d∧decide (d<0)=Cy (MH y lanes f) a b:=by
  have ha':=Aq.1 ha
  have hb':=Aq.1 hb
  have a8:a<8:=by omega
  have b8:b<8:=by omega
  have t1:=Dd hv f ha
  have t2:=Dd hv f hb
  have m1:=FN hy hv hin f ha
  have m2:=FN hy hv hin f hb
  have k1:=CU hv (B2.2 ha)
  have k2:=CU hv (B2.2 hb)
  have late:∀ c∈Ai y.buses.length,BD (n+4) c (As f) y=some (Ii y f c):=fun c hc=>by
    have hc':=Aq.1 hc
    have c8:c<8:=by omega
    unfold BD Ii BY
    rw [Hh hc'.1 c8,Option.bind_some,GB f hc'.1 c8,Option.bind_some]
    cases f c with
    | true=>rfl
    | false=>rw [cond_false,Hg y (B2.2 hc)]; rfl
  unfold Dh
  rw [Hh ha'.1 a8,Option.bind_some,J9 _ ha'.1 a8,Option.bind_some,Hh hb'.1 b8,Option.bind_some,J9 _ hb'.1 b8,Option.bind_some]
  rw [show BG (Gm y lanes f) a=Ih y lanes f a from rfl,show BG (Gm y lanes f) b=Ih y lanes f b from rfl]
  simp only [late a ha,late b hb,Option.bind_some]
  rw [He (x:=Ih y lanes f a-Ih y lanes f b) (by omega) (by omega),He (x:=Ii y f b-Ii y f a) (by omega) (by omega),He (x:=a-b) (by omega) (by omega),Uh]
  refine⟨_,rfl,?_⟩
  unfold Cy MH
  rw [decide_eq_decide]
  split
  · omega
  · split <;> omega
theorem ML (n:Nat) {y:Ag} (hf:Bc y=0) {lanes:List Int} (hl:Be y lanes=false) (hll:lanes.length≤100) (hn:500≤n):Di n y lanes=some ([],[],0,2):=by
  obtain⟨v1,v0,v2,v3,v4,v5,v6⟩:=Cb hf
  unfold Di
  rw [HR n y (by omega) (by omega) (by omega) (by omega),Option.bind_some,hf,Mw n y v4 (by omega) lanes (by omega) (by omega),Option.bind_some,hl]
  rfl
theorem PO (n:Nat) {y:Ag} (hf:Bc y=0) {lanes:List Int} (hl:Be y lanes=true) (hn:500≤n) :
    ∃ o b,Di n y lanes=some (o,b,AJ y lanes,0)∧Ei y o=true∧Dx y b=true∧((CV y lanes o b).length:Int)=AJ y lanes:=by
  obtain⟨v1,v0,v2,v3,v4,v5,v6⟩:=Cb hf
  obtain⟨l1,l2⟩:=DF hl
  obtain⟨l,q1,q2,q3,q4,q5⟩:=L9 hf hl
  refine⟨_,_,?_,q3,q4,q5⟩
  obtain⟨n,rfl⟩:∃ m,n=m+4:=⟨n-4,by omega⟩
  unfold Di
  rw [HR (n+4) y (by omega) (by omega) (by omega) (by omega),Option.bind_some,hf,Mw (n+4) y v4 (by omega) lanes (by omega) (by omega),Option.bind_some,hl,QK (n+4) hf hl hn,Option.bind_some]
  simp only [bne_self_eq_false,cond_false,Bool.not_true]
  have h1:=LA y (FM y lanes).2.1 (A7 l) (FM y lanes).1 v2 (n+4) 0 (by omega) (by omega)
  rw [show Ai 0=[] from rfl,show((0:Nat):Int)=0 from rfl] at h1
  have e1:(FM y lanes).2.2=As (A7 l):=by rw [q2]
  have e2:(FM y lanes).2.1=Gm y lanes (A7 l):=by rw [q2]
  rw [e1,show(([]:List Int).filter (A7 l))=[] from rfl] at *
  rw [h1,Option.bind_some,e2]
  rw [HW (n+4) _ (Cy (MH y lanes (A7 l))) (Ai y.buses.length) (by rw [Bj]; omega) (fun a ha b hb=>RV n v2 v5 l2 (A7 l) ha hb) (by rw [Bj]; omega),Option.bind_some]
  rfl
end Go.Proofs.Ythcbemnflgjadaa
namespace Go.Proofs.Ythcbemnflgjadaa
open Go Go.RowKit
def JE (s:Ar) (b:Int):Bool:=s.toL.getD b.toNat false
theorem Rr (f:Int→Bool) {b:Int} (h0:0≤b) (h8:b<8):JE (As f) b=f b:=by
  rcases JQ h0 h8 with h | h | h | h | h | h | h | h <;> subst h <;> rfl
def S0 (y:Ag) (k:E0):Av :=
  ⟨(Bb y (JE k.down)).filter (JE k.buses)++((Ai y.buses.length).filter (JE k.down)).filter (JE k.buses),(((Bb y (JE k.down)).filter (JE k.buses)).length:Int)⟩
def Fs (y:Ag) (lanes:List Int) (f:Int→Bool) (k:Int):E0:=⟨As (A7 (Cd y lanes f k).buses),As (A7 (((Ai y.buses.length).filter f).filter (inl lanes k)))⟩
theorem Tm {y:Ag} (hy:y.buses.length≤8) (hd:FH [] (y.buses.map (·.turn))=false) (lanes:List Int) (f:Int→Bool) (k:Int):S0 y (Fs y lanes f k)=Cd y lanes f k:=by
  have hs:∀ b∈Ai y.buses.length,JE (Fs y lanes f k).buses b=inl lanes k b:=fun b hb=>by
    have hb':=Aq.1 hb
    unfold Fs
    rw [Rr _ hb'.1 (by omega),Bool.eq_iff_iff,FK,DV]
    exact⟨fun h=>h.2,fun h=>⟨hb,h⟩⟩
  have hf:∀ b∈Ai y.buses.length,JE (Fs y lanes f k).down b=(f b && inl lanes k b):=fun b hb=>by
    have hb':=Aq.1 hb
    unfold Fs
    rw [Rr _ hb'.1 (by omega),Bool.eq_iff_iff,FK,List.mem_filter,List.mem_filter,Bool.and_eq_true]
    exact⟨fun h=>⟨h.1.2,h.2⟩,fun h=>⟨⟨hb,h.1⟩,h.2⟩⟩
  have e1:(Bb y (JE (Fs y lanes f k).down)).filter (JE (Fs y lanes f k).buses)=(Bb y f).filter (inl lanes k):=by
    have hm:∀ x,x∈(Bb y (JE (Fs y lanes f k).down)).filter (JE (Fs y lanes f k).buses)↔x∈(Bb y f).filter (inl lanes k):=fun x=>by
      rw [List.mem_filter,List.mem_filter,BM,BM]
      constructor
      · rintro⟨⟨h1,h2⟩,h3⟩
        rw [hf x h1] at h2
        rw [hs x h1] at h3
        rw [h3,Bool.and_true] at h2
        exact⟨⟨h1,h2⟩,h3⟩
      · rintro⟨⟨h1,h2⟩,h3⟩
        exact⟨⟨h1,by rw [hf x h1,h2]; rfl⟩,by rw [hs x h1]; exact h3⟩
    refine Pu (key:=BY y) (fun a ha b hb h=>?_) ((List.Pairwise.filter _ (EW hd _)).imp fun h=>Int.le_of_lt h) ((List.Pairwise.filter _ (EW hd f)).imp fun h=>Int.le_of_lt h)
      ((List.perm_ext_iff_of_nodup (List.Pairwise.filter _ (Hi y _)) (List.Pairwise.filter _ (Hi y f))).2 hm)
    exact P4 hd (BM.1 (List.mem_filter.1 ha).1).1 (BM.1 (List.mem_filter.1 hb).1).1 h
  have e2:((Ai y.buses.length).filter (JE (Fs y lanes f k).down)).filter (JE (Fs y lanes f k).buses)=((Ai y.buses.length).filter f).filter (inl lanes k):=by
    rw [List.filter_filter,List.filter_filter]
    refine List.filter_congr fun b hb=>?_
    rw [hs b hb,hf b hb]
    cases f b <;> cases inl lanes k b <;> rfl
  unfold S0 Cd
  rw [e1,e2]
theorem Ki {y:Ag} (hy:y.buses.length≤8) (c:Av) (hc:∀ b∈c.buses,b∈Ai y.buses.length) (hl:c.buses.length≤100) (a:Nat) (ha:c.down=(a:Int)):∀ (n i:Nat),c.buses.length<n+i→i≤c.buses.length →
    Cl n c (i:Int) (As (A7 (c.buses.take i))) (As (A7 ((c.buses.take i).drop a)))=some (As (A7 c.buses),As (A7 (c.buses.drop a)))
  | 0,i,h,hi=>by omega
  | n+1,i,h,hi=>by
    rw [Cl,B4]
    by_cases hx:i<c.buses.length
    · have hb:=Aq.1 (hc _ (List.getElem_mem hx))
      have h8:c.buses[i]<8:=by omega
      have ih:=Ki hy c hc hl a ha n (i+1) (by omega) (by omega)
      have et:c.buses.take (i+1)=c.buses.take i++[c.buses[i]]:=by rw [List.take_add_one,List.getElem?_eq_getElem hx]; rfl
      simp only [hx,decide_true,cond_true,Dv _ _ hx,Option.bind_some,Hh hb.1 h8,GC _ hb.1 h8]
      rw [DB i (by omega)]
      have e1:(As fun x=>if x=c.buses[i] then true else A7 (c.buses.take i) x)=As (A7 (c.buses.take (i+1))):=CJ fun x=>by rw [et,GD]
      have e2:(As fun x=>if x=c.buses[i] then decide ((i:Int)≥c.down) else A7 ((c.buses.take i).drop a) x)=As (A7 ((c.buses.take (i+1)).drop a)):=CJ fun x=>by
        by_cases hq:a≤i
        · have ed:(c.buses.take (i+1)).drop a=(c.buses.take i).drop a++[c.buses[i]]:=by
            rw [et,List.drop_append_of_le_length (by rw [List.length_take]; omega)]
          rw [ed,GD,decide_eq_true (show(i:Int)≥c.down by omega)]
        · have e3:(c.buses.take (i+1)).drop a=[]:=List.drop_eq_nil_of_le (by rw [List.length_take]; omega)
          have e4:(c.buses.take i).drop a=[]:=List.drop_eq_nil_of_le (by rw [List.length_take]; omega)
          rw [e3,e4,decide_eq_false (show ¬ (i:Int)≥c.down by omega)]
          simp [A7]
      rw [e1,e2]
      exact ih
    · have:i=c.buses.length:=by omega
      subst this
      simp
theorem TS {y:Ag} (hy:y.buses.length≤8) (lanes:List Int) (f:Int→Bool) (k:Int) (n:Nat) (hn:50≤n):Cl n (Cd y lanes f k) 0 (Ar.mk false false false false false false false false) (Ar.mk false false false false false false false false)=some ((Fs y lanes f k).buses,(Fs y lanes f k).down):=by
  have hl:=OI y lanes f k
  have h:=Ki hy (Cd y lanes f k) (fun b hb=>(DV.1 hb).1) (by omega) ((Bb y f).filter (inl lanes k)).length rfl n 0 (by omega) (by omega)
  rw [List.take_zero,List.drop_nil,show((0:Nat):Int)=0 from rfl,← Rm] at h
  rw [h]
  unfold Fs
  rw [show(Cd y lanes f k).buses.drop ((Bb y f).filter (inl lanes k)).length=((Ai y.buses.length).filter f).filter (inl lanes k) from List.drop_left]
def CR (y:Ag) (m:List (E0×Int)):Prop:=∀ k v,Dg m k=some v→v=(BZ y (S0 y k)).many
theorem CR.put {y:Ag} {m:List (E0×Int)} (h:CR y m) {k:E0} {v:Int} (hv:v=(BZ y (S0 y k)).many):CR y (Gj m k v):=fun k' v' h'=>by
  rw [G7] at h'
  split at h'
  · rename_i he
    subst he
    cases h'
    exact hv
  · exact h k' v' h'
theorem Hp {y:Ag} (hy:y.buses.length≤8) (hd:FH [] (y.buses.map (·.turn))=false) (many:Int) (lanes:List Int) (f:Int→Bool) (cs:List Av) (hc:∀ c∈cs,∃ k,c=Cd y lanes f k) (hl:cs.length≤100):∀ (n i:Nat)(s:Int)(m:List (E0×Int)),200≤n+i→i≤cs.length→0≤s∧s≤16*i→CR y m →
    ∃ m',Cm n many y cs (i:Int) s m=some (s+JA y (cs.drop i),m')∧CR y m'
  | 0,i,s,m,h,hi,_,_=>by omega
  | n+1,i,s,m,h,hi,hs,hm=>by
    rw [Cm,B4]
    by_cases hx:i<cs.length
    · obtain⟨k,ek⟩:=hc _ (List.getElem_mem hx)
      have hcl:=OI y lanes f k
      have hr:=EM y cs[i].down cs[i].buses 0 (-1)
      have hw:BV n y cs[i]=some (BZ y cs[i]):=P6 n hy (fun b hb=>by rw [ek] at hb; exact(DV.1 hb).1) (by rw [ek]; omega) (by rw [ek]; omega)
      have hkey:=TS hy lanes f k n (by omega)
      rw [← ek] at hkey
      have hv:(BZ y cs[i]).many=(BZ y (S0 y (Fs y lanes f k))).many:=by rw [Tm hy hd,← ek]
      have hm0:0≤(BZ y cs[i]).many∧(BZ y cs[i]).many≤16:=⟨hr.1,by have:=hr.2; unfold BZ; rw [ek] at this ⊢; omega⟩
      have fin:s+JA y (cs.drop i)=(s+(BZ y cs[i]).many)+JA y (cs.drop (i+1)):=by
        rw [B3 hx]
        unfold JA
        rw [List.map_cons,List.sum_cons]
        omega
      simp only [hx,decide_true,cond_true,Dv _ _ hx,Option.bind_some,hkey]
      rw [DB i (by omega)]
      cases hq:Dg m (E0.mk (Fs y lanes f k).buses (Fs y lanes f k).down) with
      | some v =>
        have ev:=hm _ _ hq
        have:Ej m (E0.mk (Fs y lanes f k).buses (Fs y lanes f k).down) (0:Int)=(v,true):=by unfold Ej; rw [hq]
        simp only [this,Bool.not_true,cond_false]
        have evv:v=(BZ y cs[i]).many:=by rw [ev,hv]
        rw [evv,He (by omega) (by omega),fin]
        exact Hp hy hd many lanes f cs hc hl n (i+1) _ m (by omega) (by omega) ⟨by omega,by omega⟩ hm
      | none =>
        have:Ej m (E0.mk (Fs y lanes f k).buses (Fs y lanes f k).down) (0:Int)=(0,false):=by unfold Ej; rw [hq]
        simp only [this,Bool.not_false,cond_true,hw,Option.bind_some]
        have h2:Ej (Gj m (E0.mk (Fs y lanes f k).buses (Fs y lanes f k).down) (BZ y cs[i]).many) (E0.mk (Fs y lanes f k).buses (Fs y lanes f k).down) (0:Int)=((BZ y cs[i]).many,true):=by
          unfold Ej; rw [G7,if_pos rfl]
        rw [h2]
        simp only
        rw [He (by omega) (by omega),fin]
        exact Hp hy hd many lanes f cs hc hl n (i+1) _ _ (by omega) (by omega) ⟨by omega,by omega⟩ (hm.put hv)
    · have:i=cs.length:=by omega
      subst this
      exact⟨m,by simp [JA],hm⟩
def T2 (y:Ag) (lanes:List Int) (B:List (Int→Bool)) (m:Int):Int:=B.foldl (fun m f=>max m (EN y lanes f)) m
theorem RW (y:Ag) (lanes:List Int):T2 y lanes (Bl y) 0=AJ y lanes:=by
  obtain⟨h1,h2,h3⟩:=MK (EN y lanes) (Bl y) 0
  obtain⟨f,hf,e⟩:=NV y lanes
  have h4:=h2 f hf
  have h5:=h3 (AJ y lanes) (by unfold AJ; rw [e]; exact L7 y lanes f) fun b hb=>(Ib y lanes (Bl y) (-1,FL,As fun _=>false)).2 b hb
  have h6:AJ y lanes=EN y lanes f:=by unfold AJ; rw [e]
  unfold T2
  omega
theorem Kj {y:Ag} {lanes:List Int} (hy:y.buses.length≤8) (hm:y.room.length≤3) (hv:y.buses.all CD=true) (hd:FH [] (y.buses.map (·.turn))=false) (hl:Be y lanes=true) (found:Bool) (many:Int) (B:List (Int→Bool)) (hB:B.length≤256):∀ (n i:Nat)(s:Int)(m:List (E0×Int)),500≤n+i→i≤B.length→CR y m →
    ∃ r m',Cn n lanes found many (B.map As) y (i:Int) s m=some (r,m')∧CR y m'∧(r=T2 y lanes (B.drop i) s∨(found=true∧many≤r∧many≤T2 y lanes (B.drop i) s))
  | 0,i,s,m,h,hi,_=>by omega
  | n+1,i,s,m,h,hi,hk=>by
    obtain⟨l1,l2⟩:=DF hl
    rw [Cn]
    rw [show decide ((i:Int)<(((B.map As).length:Nat):Int))=decide (i<B.length) by rw [B4,List.length_map]]
    by_cases hx:i<B.length
    · have hix:B6 (B.map As) (i:Int)=some (As B[i]):=by rw [RG,List.getElem?_map,List.getElem?_eq_getElem hx]; rfl
      obtain⟨m1,a1,a2⟩:=Hp hy hd many lanes B[i] (BQ y lanes B[i]) (fun c hc=>by
        unfold BQ Er at hc
        obtain⟨k,_,rfl⟩:=List.mem_map.1 hc
        exact⟨k,rfl⟩) (by unfold BQ; rw [GH]; omega) n 0 0 m (by omega) (by omega) (by omega) hk
      rw [show((0:Nat):Int)=0 from rfl,List.drop_zero,Int.zero_add] at a1
      obtain⟨n,rfl⟩:∃ q,n=q+2:=⟨n-2,by omega⟩
      have hmx:T2 y lanes (B.drop i) s=T2 y lanes (B.drop (i+1)) (max s (EN y lanes B[i])):=by
        rw [B3 hx]
        rfl
      simp only [hx,decide_true,cond_true,hix,Option.bind_some,MB (n+2) y lanes B[i] (by omega) hy hv l1 l2 (by omega)]
      rw [a1]
      simp only [Option.bind_some]
      rw [Ml n,Option.bind_some,DB i (by omega),hmx]
      have ih:=Kj hy hm hv hd hl found many B hB (n+2) (i+1) (max s (EN y lanes B[i])) m1 (by omega) (by omega) a2
      cases found with
      | false=>exact ih
      | true =>
        by_cases hq:max s (JA y (BQ y lanes B[i]))≥many
        · rw [cond_true,decide_eq_true hq,cond_true]
          have h1:=(MK (EN y lanes) (B.drop (i+1)) (max s (EN y lanes B[i]))).1
          refine⟨_,m1,rfl,a2,.inr ⟨rfl,by omega,?_⟩⟩
          unfold T2
          unfold EN at h1 ⊢
          omega
        · rw [cond_true,decide_eq_false hq,cond_false]
          exact ih
    · have:i=B.length:=by omega
      subst this
      exact⟨s,m,by simp,hk,.inl (by simp [T2])⟩
theorem NX (n:Nat) {y:Ag} {lanes:List Int} (hf:Bc y=0) (hl:Be y lanes=true) (found:Bool) (many:Int) (m:List (E0×Int)) (hk:CR y m) (hn:500≤n) :
    ∃ r m',Fc n lanes found many ((Bl y).map As) y m=some (r,m')∧CR y m'∧(r=AJ y lanes∨(found=true∧many≤r∧many≤AJ y lanes)):=by
  obtain⟨v1,v0,v2,v3,v4,v5,v6⟩:=Cb hf
  obtain⟨r,m',h1,h2,h3⟩:=Kj v2 v1 v5 v6 hl found many (Bl y) (Kc y v2) n 0 0 m (by omega) (by omega) hk
  rw [List.drop_zero,RW] at h3
  rw [show((0:Nat):Int)=0 from rfl] at h1
  unfold Fc
  rw [h1]
  exact⟨r,m',rfl,h2,h3⟩
def DG (y:Ag) (pre:List Int):List Int:=Dw y.room.length fun k=>AS y.room k-(pre.count k:Int)
def OM (s:Option (List Int×Int)):Bool:=s.isSome
def Rs (s:Option (List Int×Int)):Int:=match s with | none=>0 | some p=>p.2
def Rt (s:Option (List Int×Int)):List Int:=match s with | none=>[] | some p=>p.1
def S1 (y:Ag) (r:Nat):Prop:=∀ (n:Nat)(pre:List Int)(s:Option (List Int×Int))(m:List (E0×Int)),540+10*r≤n→pre.length+r=y.buses.length→Cw y.room [] pre=true→CR y m →
    ∃ m',lane_Best_2 n pre (OM s) (Rs s) (Rt s) (DG y pre) y ((Bl y).map As) m=some (OM (CN (AJ y) (JD y.room r pre) s),Rs (CN (AJ y) (JD y.room r pre) s),Rt (CN (AJ y) (JD y.room r pre) s),DG y pre,m')∧CR y m'
theorem PP {n i:Nat} (h:i<n):(Ai n).drop i=(i:Int)::(Ai n).drop (i+1):=by
  have hl:i<(Ai n).length:=by rw [Bj]; exact h
  have e:(Ai n)[i]? = some (i:Int):=by
    unfold Ai
    rw [List.getElem?_map,List.getElem?_range h]
    rfl
  obtain⟨_,e'⟩:=List.getElem?_eq_some_iff.1 e
  rw [B3 hl,e']
theorem Hq {y:Ag} (hf:Bc y=0) (r:Nat) (H:S1 y r) (pre:List Int) (hl:pre.length+(r+1)=y.buses.length) (hR:Cw y.room [] pre=true):∀ (n i:Nat)(s:Option (List Int×Int))(m:List (E0×Int)),546+10*r≤n+i→i≤y.room.length→CR y m →
    ∃ m',Co n pre (DG y pre) y ((Bl y).map As) (DG y pre) (i:Int) (OM s) (Rs s) (Rt s) m =
      some (DG y pre,OM (CN (AJ y) (((Ai y.room.length).drop i).flatMap fun k=>if (pre.count k:Int)<AS y.room k then JD y.room r (pre++[k]) else []) s),Rs (CN (AJ y) (((Ai y.room.length).drop i).flatMap fun k=>if (pre.count k:Int)<AS y.room k then JD y.room r (pre++[k]) else []) s),Rt (CN (AJ y) (((Ai y.room.length).drop i).flatMap fun k=>if (pre.count k:Int)<AS y.room k then JD y.room r (pre++[k]) else []) s),m')∧CR y m'
  | 0,i,s,m,h,hi,_=>by
    obtain⟨v1,_⟩:=Cb hf
    omega
  | n+1,i,s,m,h,hi,hk=>by
    obtain⟨v1,v0,v2,v3,v4,v5,v6⟩:=Cb hf
    rw [Co]
    rw [show decide ((i:Int)<(((DG y pre).length:Nat):Int))=decide (i<y.room.length) by rw [B4]; unfold DG; rw [IP]]
    by_cases hx:i<y.room.length
    · have hbt:DT (i:Int) 0 ((y.room.length:Int)-1)=true:=by rw [AY]; omega
      have hra:=GE v4 hbt
      have hcl:pre.count (i:Int)≤pre.length:=List.count_le_length
      have hidx:B6 (DG y pre) (i:Int)=some (AS y.room (i:Int)-(pre.count (i:Int):Int)):=F9 hbt
      simp only [hx,decide_true,cond_true,hidx,Option.bind_some]
      rw [PP hx,List.flatMap_cons]
      by_cases hq:(pre.count (i:Int):Int)<AS y.room (i:Int)
      · rw [decide_eq_true (show AS y.room (i:Int)-(pre.count (i:Int):Int)>0 by omega),cond_true,if_pos hq]
        have hup:upd (DG y pre) (i:Int) (IntKind.i64.wrap (AS y.room (i:Int)-(pre.count (i:Int):Int)-1))=some (DG y (pre++[(i:Int)])):=by
          unfold DG
          rw [JR hbt]
          congr 2
          funext x
          rw [DD]
          by_cases hxe:x=(i:Int)
          · rw [if_pos hxe,if_pos hxe,He (by omega) (by omega),hxe]; omega
          · rw [if_neg hxe,if_neg hxe]; omega
        have hR':Cw y.room [] (pre++[(i:Int)])=true:=by
          rw [Ia,hR,hbt,List.nil_append,decide_eq_true hq]
          rfl
        obtain⟨m1,a1,a2⟩:=H n (pre++[(i:Int)]) s m (by omega) (by simp; omega) hR' hk
        rw [hup,Option.bind_some,ED _ _ (by simp; omega),Option.bind_some,a1,Option.bind_some]
        have hidx2:B6 (DG y (pre++[(i:Int)])) (i:Int)=some (AS y.room (i:Int)-((pre++[(i:Int)]).count (i:Int):Int)):=F9 hbt
        have hup2:upd (DG y (pre++[(i:Int)])) (i:Int) (IntKind.i64.wrap (AS y.room (i:Int)-((pre++[(i:Int)]).count (i:Int):Int)+1))=some (DG y pre):=by
          have hc2:=DD pre (i:Int) (i:Int)
          rw [if_pos rfl] at hc2
          unfold DG
          rw [JR hbt]
          congr 2
          funext x
          by_cases hxe:x=(i:Int)
          · rw [if_pos hxe,He (by omega) (by omega),hxe]; omega
          · rw [if_neg hxe,DD,if_neg hxe]; omega
        simp only [hidx2,Option.bind_some]
        rw [hup2,Option.bind_some,DB i (by omega)]
        have el:∀ B,CN (AJ y) (JD y.room r (pre++[(i:Int)])++B) s=CN (AJ y) B (CN (AJ y) (JD y.room r (pre++[(i:Int)])) s):=fun B=>by unfold CN; rw [List.foldl_append]
        rw [el]
        exact Hq hf r H pre hl hR n (i+1) _ m1 (by omega) (by omega) a2
      · rw [decide_eq_false (show ¬ AS y.room (i:Int)-(pre.count (i:Int):Int)>0 by omega),cond_false,if_neg hq,List.nil_append,DB i (by omega)]
        exact Hq hf r H pre hl hR n (i+1) s m (by omega) (by omega) hk
    · have:i=y.room.length:=by omega
      subst this
      refine⟨m,?_,hk⟩
      rw [show(Ai y.room.length).drop y.room.length=[] from List.drop_eq_nil_of_le (by rw [Bj]; exact Nat.le_refl _)]
      simp [CN]
theorem NY {y:Ag} (hf:Bc y=0):∀ r,S1 y r
  | 0,n,pre,s,m,hn,hl,hR,hk=>by
    obtain⟨v1,v0,v2,v3,v4,v5,v6⟩:=Cb hf
    obtain⟨n,rfl⟩:∃ q,n=q+1:=⟨n-1,by omega⟩
    have hlb:Be y pre=true:=by unfold Be; rw [decide_eq_true (show pre.length=y.buses.length by omega),hR]; rfl
    have hc:(((pre.length:Nat):Int) == ((y.buses.length:Nat):Int))=true:=by rw [beq_iff_eq]; omega
    cases s with
    | none =>
      show ∃ m',lane_Best_2 (n+1) pre false 0 [] (DG y pre) y ((Bl y).map As) m=some (true,AJ y pre,pre,DG y pre,m')∧CR y m'
      obtain⟨q,m1,a1,a2,a3⟩:=NX n hf hlb false 0 m hk (by omega)
      have hq:q=AJ y pre:=by
        rcases a3 with h | ⟨h,_⟩
        · exact h
        · cases h
      refine⟨m1,?_,a2⟩
      rw [lane_Best_2,hc,cond_true,a1,hq]
      simp only [Option.bind_some,Bool.not_false,cond_true,JP n pre (by omega)]
    | some p =>
      obtain⟨b,k⟩:=p
      obtain⟨q,m1,a1,a2,a3⟩:=NX n hf hlb true k m hk (by omega)
      have e:CN (AJ y) (JD y.room 0 pre) (some (b,k))=if AJ y pre<k then some (pre,AJ y pre) else some (b,k):=rfl
      by_cases hq:AJ y pre<k
      · rw [e,if_pos hq]
        show ∃ m',lane_Best_2 (n+1) pre true k b (DG y pre) y ((Bl y).map As) m=some (true,AJ y pre,pre,DG y pre,m')∧CR y m'
        have hw:q=AJ y pre:=by
          rcases a3 with h | ⟨_,_,h⟩
          · exact h
          · omega
        refine⟨m1,?_,a2⟩
        rw [lane_Best_2,hc,cond_true,a1,hw]
        simp only [Option.bind_some,Bool.not_true,cond_false,decide_eq_true hq,cond_true,JP n pre (by omega)]
      · rw [e,if_neg hq]
        show ∃ m',lane_Best_2 (n+1) pre true k b (DG y pre) y ((Bl y).map As) m=some (true,k,b,DG y pre,m')∧CR y m'
        have hw : ¬ q<k:=by
          rcases a3 with h | ⟨_,h,_⟩
          · rw [h]; exact hq
          · omega
        refine⟨m1,?_,a2⟩
        rw [lane_Best_2,hc,cond_true,a1]
        simp only [Option.bind_some,Bool.not_true,cond_false,decide_eq_false hw]
  | r+1,n,pre,s,m,hn,hl,hR,hk=>by
    obtain⟨n,rfl⟩:∃ q,n=q+1:=⟨n-1,by omega⟩
    rw [lane_Best_2,show((((pre.length:Nat):Int) == ((y.buses.length:Nat):Int)))=false by
      cases hq:(((pre.length:Nat):Int) == ((y.buses.length:Nat):Int)) with
      | false=>rfl
      | true=>rw [beq_iff_eq] at hq; omega,cond_false]
    obtain⟨m1,a1,a2⟩:=Hq hf r (NY hf r) pre hl hR n 0 s m (by omega) (by omega) hk
    refine⟨m1,?_,a2⟩
    rw [show((0:Nat):Int)=0 from rfl,List.drop_zero] at a1
    rw [a1]
    rfl
theorem RX (y:Ag):DG y []=y.room:=by
  unfold DG
  conv=>rhs; rw [HX y.room]
  congr 1
  funext k
  unfold AS
  simp
theorem Ru (n:Nat) {y:Ag} (hf:Bc y=0) (hn:640≤n):EQ n y=some (match FO y with | none=>([],0,9) | some p=>(p.1,p.2,0)):=by
  obtain⟨v1,v0,v2,v3,v4,v5,v6⟩:=Cb hf
  obtain⟨m,a1,_⟩:=NY hf y.buses.length n [] none [] (by omega) (by simp) rfl (fun k v h=>by simp [Dg] at h)
  unfold EQ
  rw [HR n y (by omega) (by omega) (by omega) (by omega),Option.bind_some,hf,NS n v2 v3 (by omega),Option.bind_some,JP n y.room (by omega),Option.bind_some]
  rw [RX] at a1
  simp only [bne_self_eq_false,cond_false]
  rw [show lane_Best_2 n [] false 0 [] y.room y ((Bl y).map As) []=_ from a1,Option.bind_some]
  rw [show CN (AJ y) (JD y.room y.buses.length []) none=FO y from rfl]
  cases FO y with
  | none=>rfl
  | some p=>rfl
end Go.Proofs.Ythcbemnflgjadaa
namespace Go.Proofs.Ythcbemnflgjadaa
open Go Go.RowKit
theorem ON (y:Ag) (lanes:List Int):FA 700 y lanes=some true:=by
  unfold FA
  rw [P3 700 y (by omega)]
  simp only [Option.bind_some,Ms]
  by_cases hf:Bc y=0
  rotate_left
  · simp [hf]
  obtain⟨v1,v0,v2,v3,v4,v5,v6⟩:=Cb hf
  rw [show(decide (y.room.length≤6) && decide (y.buses.length≤12) && decide (Bc y=0))=true by
    rw [decide_eq_true hf,decide_eq_true (show y.room.length≤6 by omega),decide_eq_true (show y.buses.length≤12 by omega)]; rfl]
  by_cases hl:lanes.length≤15
  rotate_left
  · rw [Ug lanes hl]; rfl
  rw [Ur lanes hl]
  simp only [Bool.not_true,cond_false,Option.bind_some]
  rw [HQ 700 y (by omega) (by omega) (by omega),Option.bind_some,Ru 700 hf (by omega),Option.bind_some,Option.bind_some,CI 700 lanes (by omega),Option.bind_some]
  cases hb:FO y with
  | none =>
    rw [ML 700 hf (L8 hb lanes) (by omega) (by omega)]
    rfl
  | some p =>
    obtain⟨b,m⟩:=p
    obtain⟨q1,q2,q3⟩:=Im hb
    have h0:=OL hf q1
    have hbl:=(DF q1).1
    cases hq:Be y lanes with
    | false =>
      rw [ML 700 hf hq (by omega) (by omega)]
      simp only [Option.bind_some,bne_self_eq_false,cond_false]
      rw [Mx 700 y v4 (by omega) b (by omega) (by omega),q1,decide_eq_false (show ¬ m<0 by omega)]
      rfl
    | true =>
      obtain⟨o,br,e1,_,_,_⟩:=PO 700 hf hq (by omega)
      rw [e1]
      simp only [Option.bind_some,bne_self_eq_false,cond_false]
      rw [Mx 700 y v4 (by omega) b (by omega) (by omega),q1,decide_eq_false (show ¬ m<0 by omega),decide_eq_true (show AJ y lanes≥m from q3 lanes hq)]
      rfl
theorem Jp (n:Nat) {y:Ag} (hf:Bc y=0) (order:List Int) (ho:order.length≤100) (hn:200≤n):BW n y order=some (Ei y order):=by
  obtain⟨v1,v0,v2,v3,v4,v5,v6⟩:=Cb hf
  obtain⟨p,hp,_⟩:=Lz n y v2 v5 order (by omega) (by omega)
  unfold BW
  rw [HR n y (by omega) (by omega) (by omega) (by omega),Option.bind_some,hf]
  simp only [bne_self_eq_false,cond_false]
  rw [hp]
  rfl
theorem NZ (n:Nat) {y:Ag} {lanes order broken:List Int} (hf:Bc y=0) (hl:Be y lanes=true) (ho:Ei y order=true) (hb:Dx y broken=true) (hn:200≤n):C1 n y lanes order broken=some (CV y lanes order broken,0):=by
  obtain⟨v1,v0,v2,v3,v4,v5,v6⟩:=Cb hf
  have v3':=AY.1 v3
  have hO:=EK ho
  have hb3:=(EL hb).2.2
  have hll:=(DF hl).1
  have ha:E2 y lanes order broken=0:=by
    unfold E2 JS
    rw [if_pos hf,hl,ho,hb]
    rfl
  rw [RO n y lanes order broken (by omega) (by omega) (by omega) (by rw [hO.len]; omega) (by omega) hn,ha,if_pos rfl]
theorem QP (y:Ag) (hf:Bc y=0) (order broken:List Int) (ho:Ei y order=true) (hb:Dx y broken=true) (best:List Int) (least:Int) (other:List Int) (hbl:Be y best=true) (hol:Be y other=true) (hm:least=AJ y best) (hle:∀ l,Be y l=true→least≤AJ y l) (n:Nat) (hn:640≤n) :
    Bo n y order broken (best,least,0) (other,true) 0=some (Ex.go ()):=by
  obtain⟨v1,v0,v2,v3,v4,v5,v6⟩:=Cb hf
  have v3':=AY.1 v3
  have hO:=EK ho
  have hb3:=(EL hb).2.2
  have l1:=(DF hbl).1
  have l2:=(DF hol).1
  obtain⟨n,rfl⟩:∃ q,n=q+3:=⟨n-3,by omega⟩
  have step:∀ (k:Nat)(i:Int)(l:List Int),600≤k→Be y l=true→(i=0∧l=best∨i=1∧l=other)→Bo (k+1) y order broken (best,least,0) (other,true) i=Bo k y order broken (best,least,0) (other,true) (IntKind.i64.wrap (i+1)):=fun k i l hk hl hi=>by
    have hll:=(DF hl).1
    obtain⟨o,b,e1,e2,e3,e4⟩:=PO k hf hl (by omega)
    have hO2:=EK e2
    have hb4:=(EL e3).2.2
    have hge:=Sx hf hl ho hb
    have hlw:=hle l hl
    have r1:Jh 2 i=some ():=by rcases hi with⟨rfl,_⟩ | ⟨rfl,_⟩ <;> rfl
    have r2:B6 (Ed.mk best other).toL i=some l:=by rcases hi with⟨rfl,rfl⟩ | ⟨rfl,rfl⟩ <;> rfl
    have r3:decide (i<2)=true:=by rcases hi with⟨rfl,_⟩ | ⟨rfl,_⟩ <;> rfl
    rw [Bo,r3,cond_true,r1]
    simp only [Option.bind_some,r2,HQ k y (by omega) (by omega) (by omega),CI k l (by omega),e1,CI k order (by rw [hO.len]; omega),CI k broken (by omega),NZ k hf hl ho hb (by omega),r1]
    simp only [bne_self_eq_false,cond_false,decide_eq_false (show ¬ ((CV y l order broken).length:Int)>AJ y l by omega),decide_eq_false (show ¬ AJ y l<least by omega),CI k o (by rw [hO2.len]; omega),CI k b (by omega),Jp k hf o (by rw [hO2.len]; omega) (by omega),e2,Option.bind_some,Bool.not_true,Py k y (by omega) b (by omega) (by omega),e3,NZ k hf hl e2 e3 (by omega),e4]
    rcases hi with⟨rfl,rfl⟩ | ⟨rfl,rfl⟩
    · rw [hm]
      simp
    · simp
  rw [step (n+2) 0 best (by omega) hbl (.inl ⟨rfl,rfl⟩)]
  rw [show IntKind.i64.wrap (0+1)=1 by decide,step (n+1) 1 other (by omega) hol (.inr ⟨rfl,rfl⟩)]
  rw [show IntKind.i64.wrap (1+1)=2 by decide,Bo]
  rfl
theorem ND (y:Ag) (words:List (IK .u16)) (hw:St words):EY 700 y words=some true:=by
  unfold EY
  rw [P3 700 y (by omega)]
  simp only [Option.bind_some,Ms]
  by_cases hf:Bc y=0
  rotate_left
  · simp [hf]
  obtain⟨v1,v0,v2,v3,v4,v5,v6⟩:=Cb hf
  have v3':=AY.1 v3
  rw [show(decide (y.room.length≤6) && decide (y.buses.length≤12) && decide (Bc y=0))=true by
    rw [decide_eq_true hf,decide_eq_true (show y.room.length≤6 by omega),decide_eq_true (show y.buses.length≤12 by omega)]; rfl]
  obtain⟨other,is,e1,e2,e3⟩:=PN 700 v0 v4 (by omega) (by omega) hw (by omega)
  obtain⟨broken,d1,d2,d3⟩:=Tj 700 (y:=y) (by omega) v3'.1 hw (by omega)
  have hpo:=RP v5 hw
  have hO:=EK hpo
  simp only [Bool.not_true,cond_false]
  rw [Ti 700 (by omega) v5 hw (by omega),Option.bind_some,d1,Option.bind_some,HQ 700 y (by omega) (by omega) (by omega),Option.bind_some,Ru 700 hf (by omega),Option.bind_some,e1,Option.bind_some]
  have hpr:=Jp 700 hf (Fq y words) (by rw [hO.len]; omega) (by omega)
  cases is with
  | false =>
    obtain⟨rfl,hno⟩:=e3 rfl
    have hb:FO y=none:=by
      cases hq:FO y with
      | none=>rfl
      | some p =>
        have:=(Im (b:=p.1) (m:=p.2) hq).1
        rw [hno] at this
        cases this
    rw [hb]
    simp only [CI 700 (Fq y words) (by rw [hO.len]; omega),hpr,hpo,Option.bind_some]
    rfl
  | true =>
    obtain⟨l1,l2⟩:=e2 rfl
    cases hb:FO y with
    | none =>
      have:=L8 hb other
      rw [l1] at this
      cases this
    | some p =>
      obtain⟨b,m⟩:=p
      obtain⟨q1,q2,q3⟩:=Im hb
      have hst:=QP y hf (Fq y words) broken hpo d2 b m other q1 l1 q2 q3 700 (by omega)
      simp only [CI 700 (Fq y words) (by rw [hO.len]; omega),hpr,hpo,Option.bind_some]
      rw [hst]
      rfl
end Go.Proofs.Ythcbemnflgjadaa
