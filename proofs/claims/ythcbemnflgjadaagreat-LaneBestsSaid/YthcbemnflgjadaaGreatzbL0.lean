/- The plain law. -/
import Derived.Test.YthcbemnflgjadaaGreatzbP0
import Derived.KernelRfl
set_option linter.all false
namespace Go.Proofs.YthcbemnflgjadaaGreat
open Go Go.RowKit
theorem MK {x:Int} (h0 : -9223372036854775808≤x) (h1:x≤9223372036854775807):IntKind.i64.wrap x=x:=by
  simp [IntKind.wrap,IntKind.bits,IntKind.signed]; omega
theorem CW (i:Nat) (h:i<1000000000000):IntKind.i64.wrap ((i:Int)+1)=((i+1:Nat):Int):=by
  rw [MK (by omega) (by omega)]; omega
theorem Rw {α:Type} (xs:List α) (i:Nat):B3 xs (i:Int)=xs[i]?:=rfl
theorem CA {α:Type} (xs:List α) (i:Nat) (h:i<xs.length):B3 xs (i:Int)=some xs[i]:=by rw [Rw,List.getElem?_eq_getElem h]
theorem CS {α:Type} (xs ys:List α) (h:xs.length+ys.length≤1000000000):Ij xs ys=some (xs++ys):=by
  unfold Ij; rw [if_pos (by simpa using h)]
theorem Uj {α:Type} (xs:List α) (i:Nat) (y:α) (h:i<xs.length):upd xs (i:Int) y=some (xs.set i y):=by
  show(if i<xs.length then some (xs.set i y) else none)=_
  rw [if_pos h]
theorem Vw {α:Type} (n:Nat) (x:α) (h:n≤1000000000):mk (n:Int) x=some (List.replicate n x):=by
  unfold mk; rw [if_pos (by omega)]; rfl
theorem AR {α:Type} {xs:List α} {i:Nat} (h:i<xs.length):xs.drop i=xs[i]::xs.drop (i+1):=List.drop_eq_getElem_cons h
theorem Bi {α:Type} (xs:List α) (i:Nat):decide ((i:Int)<((xs.length:Nat):Int))=decide (i<xs.length):=by
  by_cases h:i<xs.length <;> simp [h]
theorem GT {K α:Type} [DecidableEq K] (k j:K) (x:α):∀ l:List (K×α),De (G7 l k x) j=if k=j then some x else De l j
  | []=>by simp [G7,De]
  | p::r=>by
    unfold G7
    by_cases h:p.1=k
    · rw [if_pos h]
      simp only [De]
      by_cases hj:k=j
      · simp [hj]
      · simp [hj,h]
    · rw [if_neg h,De,De,GT k j x r]
      by_cases hj:p.1=j
      · have:k≠j:=fun e=>h (by rw [hj,e])
        simp [hj,this]
      · simp [hj]
theorem O3 {α β:Type} {x:Option α} {v:α} {f:α→Option β} (h:x=some v):x.bind f=f v:=by rw [h]; rfl
theorem Pv (l:List Int):(EI l).Pairwise (·≤·):=by
  have:=List.pairwise_mergeSort (le:=fun x y:Int=>decide (x≤y)) (fun a b c h1 h2=>by simp at *; omega) (fun a b=>by simp; omega) l
  exact this.imp fun h=>by simpa using h
theorem Tl {l l':List Int} (hp:l.Perm l') (hs:l'.Pairwise (·≤·)):EI l=l' :=
  List.Perm.eq_of_pairwise (le:=(·≤·)) (fun _ _ _ _ h1 h2=>Int.le_antisymm h1 h2) (Pv l) hs ((List.mergeSort_perm l _).trans hp)
theorem Tm {l l':List Int} (hp:l.Perm l') (hs:l'.Pairwise (·≤·)) (hl:l.length≤1000000):Pa l=some l':=by
  unfold Pa
  rw [if_pos (by omega),Tl hp hs]
def Rx:Ag:=⟨[2,2],[⟨100,120,40⟩,⟨110,130,20⟩,⟨125,140,30⟩,⟨150,160,10⟩],0⟩
def Tn:Cd:=⟨Rx,[0,0,1,1],⟨0,1,2,3,0,0,0,0⟩,⟨false,false,false,false,false,false,false,false⟩⟩
theorem LQ (n:Nat) (l:List Int) (h:l.length≤1000):Ha n l=some l:=by
  unfold Ha
  simp [CS [] l (by simp; omega)]
theorem Kv (n:Nat) (l:List Int) (h:l.length≤1000):Bu n l=some l:=by
  unfold Bu
  simp [CS [] l (by simp; omega)]
theorem Ir (y:Ag) (hb:y.buses.length≤1000):∀ (n i:Nat)(acc:List BO),y.buses.length<n+i→i≤y.buses.length→acc.length=i→DB n y acc (i:Int)=some (acc++y.buses.drop i)
  | 0,i,acc,h,hi,_=>by omega
  | n+1,i,acc,h,hi,ha=>by
    rw [DB,Bi]
    by_cases hx:i<y.buses.length
    · simp only [hx,decide_true,cond_true,CA _ _ hx,Option.bind_some]
      rw [CS _ _ (by simp; omega)]
      simp only [Option.bind_some]
      rw [CW i (by omega),Ir y hb n (i+1) _ (by omega) (by omega) (by simp; omega),AR hx,List.append_assoc]
      rfl
    · have:i=y.buses.length:=by omega
      simp [this]
theorem LR (n:Nat) (y:Ag) (hr:y.room.length≤1000) (hb:y.buses.length≤1000) (hn:y.buses.length<n):Hb n y=some y:=by
  unfold Hb
  have e1:=Ir y hb n 0 [] (by omega) (by omega) rfl
  rw [show((0:Nat):Int)=0 from rfl] at e1
  rw [LQ n _ hr,Option.bind_some,e1]
  simp
def DI (x lo hi:Int):Bool:=decide (lo≤x) && decide (x≤hi)
theorem Bs {x lo hi:Int}:DI x lo hi=true↔lo≤x∧x≤hi:=by simp [DI]
theorem FU (n:Nat) (x lo hi:Int):Gk n x lo hi=some (DI x lo hi):=by
  unfold Gk DI
  rw [show decide (x≥lo)=decide (lo≤x) from rfl]
  cases decide (lo≤x) <;> rfl
theorem Jp (n:Nat) (x lo hi:Int):Cu n x lo hi=some (DI x lo hi):=by
  unfold Cu DI
  cases decide (lo≤x) <;> rfl
def D7 (b:BO):Bool:=DI b.lo 0 b.hi && (decide (b.hi≤2000) && DI b.turn 0 2000)
theorem To (n:Nat) (b:BO):Ce n b=some (D7 b):=by
  unfold Ce D7
  simp only [Jp,Option.bind_some]
  cases DI b.lo 0 b.hi <;> cases decide (b.hi≤2000) <;> rfl
theorem LS (s:List Int) (f:Int→Option Bool) (g:Int→Bool) (hf:∀ c∈s,f c=some (g c)) (hs:s.length≤1000000):∀ (n i:Nat),s.length<n+i→i≤s.length →
    ∃ r,AK n s f (i:Int)=some r∧(if (s.drop i).any g then ∃ k:Int,0≤k∧r=Ex.ret k else r=Ex.go ())
  | 0,i,h,hi=>by omega
  | n+1,i,h,hi=>by
    rw [AK,Bi]
    by_cases hx:i<s.length
    · simp only [hx,decide_true,cond_true,CA _ _ hx,Option.bind_some,hf _ (List.getElem_mem hx)]
      rw [CW i (by omega),AR hx,List.any_cons]
      cases hv:g s[i] with
      | true=>exact⟨Ex.ret (i:Int),rfl,⟨i,by omega,rfl⟩⟩
      | false =>
        obtain⟨r,h1,h2⟩:=LS s f g hf hs n (i+1) (by omega) (by omega)
        exact⟨r,h1,by rw [Bool.false_or]; exact h2⟩
    · have:i=s.length:=by omega
      subst this
      exact⟨Ex.go (),by simp,by simp⟩
theorem Ry (n:Nat) (l:List Int) (f:Int→Option Bool) (g:Int→Bool) (hf:∀ c∈l,f c=some (g c)) (h:l.length<n) (hs:l.length≤1000000):DK n l f=some (l.all g):=by
  unfold DK BE Cb
  obtain⟨r,h1,h2⟩:=LS l (fun y0=>C2 n y0 f) (fun c=>!g c) (fun c hc=>by unfold C2; rw [hf c hc]; rfl) hs n 0 (by omega) (by omega)
  rw [show((0:Nat):Int)=0 from rfl] at h1
  rw [h1]
  simp only [List.drop_zero] at h2
  have hn:l.all g=!l.any fun c=>!g c:=by
    rw [List.not_any_eq_all_not]; simp
  rw [hn]
  split at h2
  · rename_i hm
    obtain⟨k,hk,rfl⟩:=h2
    simp [Ex.bind,hm,hk]
  · rename_i hm
    subst h2
    simp [Ex.bind,hm]
theorem LU (s:List BO) (f:BO→Option Bool) (g:BO→Bool) (hf:∀ c∈s,f c=some (g c)) (hs:s.length≤1000000):∀ (n i:Nat),s.length<n+i→i≤s.length →
    ∃ r,A2 n s f (i:Int)=some r∧(if (s.drop i).any g then ∃ k:Int,0≤k∧r=Ex.ret k else r=Ex.go ())
  | 0,i,h,hi=>by omega
  | n+1,i,h,hi=>by
    rw [A2,Bi]
    by_cases hx:i<s.length
    · simp only [hx,decide_true,cond_true,CA _ _ hx,Option.bind_some,hf _ (List.getElem_mem hx)]
      rw [CW i (by omega),AR hx,List.any_cons]
      cases hv:g s[i] with
      | true=>exact⟨Ex.ret (i:Int),rfl,⟨i,by omega,rfl⟩⟩
      | false =>
        obtain⟨r,h1,h2⟩:=LU s f g hf hs n (i+1) (by omega) (by omega)
        exact⟨r,h1,by rw [Bool.false_or]; exact h2⟩
    · have:i=s.length:=by omega
      subst this
      exact⟨Ex.go (),by simp,by simp⟩
theorem Rz (n:Nat) (l:List BO) (f:BO→Option Bool) (g:BO→Bool) (hf:∀ c∈l,f c=some (g c)) (h:l.length<n) (hs:l.length≤1000000):Cm n l f=some (l.all g):=by
  unfold Cm AV Bh
  obtain⟨r,h1,h2⟩:=LU l (fun y0=>B1 n y0 f) (fun c=>!g c) (fun c hc=>by unfold B1; rw [hf c hc]; rfl) hs n 0 (by omega) (by omega)
  rw [show((0:Nat):Int)=0 from rfl] at h1
  rw [h1]
  simp only [List.drop_zero] at h2
  have hn:l.all g=!l.any fun c=>!g c:=by
    rw [List.not_any_eq_all_not]; simp
  rw [hn]
  split at h2
  · rename_i hm
    obtain⟨k,hk,rfl⟩:=h2
    simp [Ex.bind,hm,hk]
  · rename_i hm
    subst h2
    simp [Ex.bind,hm]
def FY:List Int→List Int→Bool
  | _,[]=>false
  | s,t::r=>s.contains t || FY (s++[t]) r
theorem LV (y:Ag) (hb:y.buses.length≤1000):∀ (n i:Nat)(m:List (Int×Bool))(s:List Int),y.buses.length<n+i→i≤y.buses.length→(∀ t,(Ea m t false).1=s.contains t) →
    ∃ r,B9 n y (i:Int) m=some r∧(if FY s ((y.buses.drop i).map (·.turn)) then r=Ex.ret 1 else ∃ m',r=Ex.go m')
  | 0,i,m,s,h,hi,_=>by omega
  | n+1,i,m,s,h,hi,hm=>by
    rw [B9,Bi]
    by_cases hx:i<y.buses.length
    · simp only [hx,decide_true,cond_true,CA _ _ hx,Option.bind_some,hm]
      rw [CW i (by omega),AR hx,List.map_cons,FY]
      cases hv:s.contains y.buses[i].turn with
      | true=>exact⟨_,rfl,rfl⟩
      | false =>
        simp only [cond_false,Bool.false_or]
        refine LV y hb n (i+1) _ (s++[y.buses[i].turn]) (by omega) (by omega) fun t=>?_
        have:=hm t
        unfold Ea at this ⊢
        rw [GT]
        by_cases ht:y.buses[i].turn=t
        · simp [ht]
        · rw [if_neg ht,this]
          simp [Ne.symm ht]
    · have:i=y.buses.length:=by omega
      subst this
      exact⟨Ex.go m,by simp,by simp [FY]⟩
def A6 (y:Ag):Int :=
  if 3<y.room.length∨8<y.buses.length then 3
  else if y.room.length=0∨DI y.broken 0 2=false∨(y.room.all fun r=>DI r 0 8)=false∨y.buses.all D7=false∨FY [] (y.buses.map (·.turn))=true then 1 else 0
theorem Is (n:Nat) (y:Ag) (hr:y.room.length≤1000) (hb:y.buses.length≤1000) (h1:y.room.length<n) (h2:y.buses.length<n):Cp n y=some (A6 y):=by
  unfold Cp A6
  have e1:DK n y.room (fun y0=>BM n y0)=some (y.room.all fun r=>DI r 0 8):=Ry n _ _ _ (fun c _=>by unfold BM; rw [Jp]; rfl) h1 (by omega)
  have e2:Cm n y.buses (fun y0=>Ce n y0)=some (y.buses.all D7):=Rz n _ _ _ (fun c _=>To n c) h2 (by omega)
  obtain⟨r,e3,e4⟩:=LV y hb n 0 [] [] (by omega) (by omega) (fun t=>by simp [Ea,De])
  rw [show((0:Nat):Int)=0 from rfl] at e3
  rw [List.drop_zero] at e4
  have c1:decide (((y.room.length:Nat):Int)>3)=decide (3<y.room.length):=by by_cases h:3<y.room.length <;> simp [h] <;> omega
  have c2:decide (((y.buses.length:Nat):Int)>8)=decide (8<y.buses.length):=by by_cases h:8<y.buses.length <;> simp [h] <;> omega
  have c3:(((y.room.length:Nat):Int) == 0)=decide (y.room.length=0):=by by_cases h:y.room.length=0 <;> simp [h]
  rw [c1,c2,c3]
  by_cases a1:3<y.room.length
  · simp [a1]
  by_cases a2:8<y.buses.length
  · simp [a1,a2]
  simp only [a1,a2,decide_false,cond_false,Option.bind_some,or_self,if_false]
  by_cases a3:y.room.length=0
  · simp [a3]
  simp only [a3,decide_false,cond_false,Jp,Option.bind_some,false_or,e1,e2]
  cases a4:DI y.broken 0 2 with
  | false=>simp
  | true =>
  cases a5:(y.room.all fun r=>DI r 0 8) with
  | false=>simp
  | true =>
  cases a6:y.buses.all D7 with
  | false=>simp
  | true =>
  simp only [Bool.not_true,cond_false,Option.bind_some,e3]
  cases a7:FY [] (y.buses.map (·.turn)) with
  | true =>
    rw [a7] at e4
    simp only [if_true] at e4
    subst e4
    simp [Ex.bind]
  | false =>
    rw [a7] at e4
    obtain⟨m',rfl⟩:=e4
    simp [Ex.bind]
theorem LW (y:Ag) (hb:y.room.length≤1000):∀ (n i:Nat),y.room.length<n+i→i≤y.room.length →
    Di n y (i:Int)=some (if (y.room.drop i).all (fun r=>DI r 0 8) then Ex.go () else Ex.ret 1)
  | 0,i,h,hi=>by omega
  | n+1,i,h,hi=>by
    rw [Di,Bi]
    by_cases hx:i<y.room.length
    · simp only [hx,decide_true,cond_true,CA _ _ hx,Option.bind_some,FU]
      rw [CW i (by omega),AR hx,List.all_cons]
      cases hv:DI y.room[i] 0 8 with
      | false=>simp
      | true=>simpa using LW y hb n (i+1) (by omega) (by omega)
    · have:i=y.room.length:=by omega
      subst this
      simp
theorem LX (y:Ag) (hb:y.buses.length≤1000) (k:Nat) (b:BO) (hk:k≤y.buses.length):∀ (n i:Nat),k<n+i→i≤k →
    Dj n y (k:Int) b (i:Int)=some (if (((y.buses.take k).drop i).map (·.turn)).contains b.turn then Ex.ret 1 else Ex.go ())
  | 0,i,h,hi=>by omega
  | n+1,i,h,hi=>by
    rw [Dj]
    by_cases hx:i<k
    · have hx':i<(y.buses.take k).length:=by rw [List.length_take]; omega
      have hl:i<y.buses.length:=by omega
      simp only [show decide ((i:Int)<(k:Int))=true by simp; omega,cond_true,CA _ _ hl,Option.bind_some]
      rw [CW i (by omega),AR hx',List.map_cons,List.contains_cons,List.getElem_take]
      cases hv:(y.buses[i].turn == b.turn) with
      | true =>
        have:(b.turn == y.buses[i].turn)=true:=by rw [beq_iff_eq] at hv ⊢; exact hv.symm
        simp [this]
      | false =>
        have:(b.turn == y.buses[i].turn)=false:=by
          cases hq:(b.turn == y.buses[i].turn) with
          | false=>rfl
          | true=>rw [beq_iff_eq] at hq; rw [hq] at hv; simp at hv
        rw [this,Bool.false_or]
        simpa using LX y hb k b hk n (i+1) (by omega) (by omega)
    · have:i=k:=by omega
      subst this
      simp
theorem LY (y:Ag) (hb:y.buses.length≤500):∀ (n i:Nat),2*y.buses.length<n+i→i≤y.buses.length →
    Dk n y (i:Int)=some (if (y.buses.drop i).all D7=false∨FY ((y.buses.take i).map (·.turn)) ((y.buses.drop i).map (·.turn))=true then Ex.ret 1 else Ex.go ())
  | 0,i,h,hi=>by omega
  | n+1,i,h,hi=>by
    rw [Dk,Bi]
    by_cases hx:i<y.buses.length
    · simp only [hx,decide_true,cond_true,CA _ _ hx,Option.bind_some,FU]
      have e1:=LX y (by omega) i y.buses[i] (by omega) n 0 (by omega) (by omega)
      rw [show((0:Nat):Int)=0 from rfl] at e1
      have e2:=LY y hb n (i+1) (by omega) (by omega)
      rw [CW i (by omega),e1,e2,AR hx,List.all_cons,List.map_cons,FY,List.drop_zero]
      have e3:(y.buses.take (i+1)).map (·.turn)=(y.buses.take i).map (·.turn)++[y.buses[i].turn]:=by
        rw [List.take_succ_eq_append_getElem hx,List.map_append]; rfl
      rw [e3]
      have e4:decide (y.buses[i].hi>2000)=!decide (y.buses[i].hi≤2000):=by
        by_cases hq:y.buses[i].hi≤2000
        · simp [hq,Int.not_lt.2 hq]
        · simp [hq]; omega
      rw [e4]
      unfold D7
      cases DI y.buses[i].lo 0 y.buses[i].hi <;> cases decide (y.buses[i].hi≤2000) <;> cases DI y.buses[i].turn 0 2000 <;> cases ((y.buses.take i).map (·.turn)).contains y.buses[i].turn <;> simp [Ex.bind,D7]
    · have:i=y.buses.length:=by omega
      subst this
      simp [FY]
theorem MU (n:Nat) (y:Ag) (hr:y.room.length≤100) (hb:y.buses.length≤100) (h1:y.room.length<n) (h2:2*y.buses.length<n):EW n y=some (A6 y):=by
  unfold EW A6
  have e1:=LW y (by omega) n 0 (by omega) (by omega)
  have e2:=LY y (by omega) n 0 (by omega) (by omega)
  rw [show((0:Nat):Int)=0 from rfl] at e1 e2
  simp only [List.drop_zero,List.take_zero,List.map_nil] at e1 e2
  have c1:decide (((y.room.length:Nat):Int)>3)=decide (3<y.room.length):=by by_cases h:3<y.room.length <;> simp [h] <;> omega
  have c2:decide (((y.buses.length:Nat):Int)>8)=decide (8<y.buses.length):=by by_cases h:8<y.buses.length <;> simp [h] <;> omega
  have c3:decide (((y.room.length:Nat):Int)<1)=decide (y.room.length=0):=by by_cases h:y.room.length=0 <;> simp [h] <;> omega
  rw [c1,c2,c3,e1,e2]
  by_cases a1:3<y.room.length
  · simp [a1]
  by_cases a2:8<y.buses.length
  · simp [a1,a2]
  simp only [a1,a2,decide_false,cond_false,Option.bind_some,or_self,if_false]
  by_cases a3:y.room.length=0
  · simp [a3]
  simp only [a3,decide_false,cond_false,FU,Option.bind_some,false_or]
  cases a4:DI y.broken 0 2 <;> cases a5:(y.room.all fun r=>DI r 0 8) <;> cases a6:y.buses.all D7 <;> cases a7:FY [] (y.buses.map (·.turn)) <;> simp [Ex.bind]
theorem Uk (n:Nat) (y:Ag):IA n y=some (decide (y.room.length≤6) && decide (y.buses.length≤12)):=by
  unfold IA
  by_cases h1:y.room.length≤6 <;> by_cases h2:y.buses.length≤12
  all_goals
    have e1:decide (((y.room.length:Nat):Int)≤6)=decide (y.room.length≤6):=by simp; omega
    have e2:decide (((y.buses.length:Nat):Int)≤12)=decide (y.buses.length≤12):=by simp; omega
    rw [e1,e2]
    simp [h1,h2]
end Go.Proofs.YthcbemnflgjadaaGreat
namespace Go.Proofs.YthcbemnflgjadaaGreat
open Go Go.RowKit
def Ao (y:Ag) (b:Int):BO:=y.buses.getD b.toNat default
theorem FL (y:Ag) {b:Int} (h:DI b 0 ((y.buses.length:Int)-1)=true):B3 y.buses b=some (Ao y b):=by
  rw [Bs] at h
  obtain⟨k,rfl⟩:=Int.eq_ofNat_of_zero_le h.1
  rw [CA _ _ (by omega)]
  unfold Ao
  simp [List.getD_eq_getElem?_getD,List.getElem?_eq_getElem (show k<y.buses.length by omega)]
theorem DY {y:Ag} (hv:y.buses.all D7=true) {b:Int} (h:DI b 0 ((y.buses.length:Int)-1)=true):0≤(Ao y b).lo∧(Ao y b).lo≤(Ao y b).hi∧(Ao y b).hi≤2000∧0≤(Ao y b).turn∧(Ao y b).turn≤2000:=by
  rw [Bs] at h
  have hl:b.toNat<y.buses.length:=by omega
  have:D7 (Ao y b)=true:=by
    unfold Ao
    rw [List.getD_eq_getElem?_getD,List.getElem?_eq_getElem hl]
    exact List.all_eq_true.1 hv _ (List.getElem_mem hl)
  unfold D7 at this
  simp only [Bool.and_eq_true,Bs,decide_eq_true_eq] at this
  omega
theorem Pw (n:Nat) (a b:Int):Cv (n+2) [a,b]=some (max a b):=by
  have e1:IntKind.i64.wrap 2=2:=by decide
  by_cases h:a<b
  · have:max a b=b:=by omega
    simp [Cv,C3,Bo,B3,e1,h,this]
  · have:max a b=a:=by omega
    simp [Cv,C3,Bo,B3,e1,h,this]
theorem MV {b:Int} (h0:0≤b) (h8:b<8):Lw 8 b=some ():=by
  unfold Lw; rw [if_pos ⟨h0,h8⟩]
theorem MW {b:Int} (h0:0≤b) (h8:b<8):b=0∨b=1∨b=2∨b=3∨b=4∨b=5∨b=6∨b=7:=by omega
def A4 (f:Int→Bool):Ar:=⟨f 0,f 1,f 2,f 3,f 4,f 5,f 6,f 7⟩
theorem Kw (f:Int→Bool) {b:Int} (h0:0≤b) (h8:b<8):B3 (A4 f).toL b=some (f b):=by
  rcases MW h0 h8 with h | h | h | h | h | h | h | h <;> subst h <;> rfl
theorem PW (f:Int→Bool) {b:Int} (h0:0≤b) (h8:b<8) (v:Bool):Ar.setI (A4 f) b v=some (A4 fun x=>if x=b then v else f x):=by
  rcases MW h0 h8 with h | h | h | h | h | h | h | h <;> subst h <;> rfl
theorem Hv {f g:Int→Bool} (h:∀ b,f b=g b):A4 f=A4 g:=by rw [funext h]
def A5 (l:List Int) (b:Int):Bool:=l.contains b
def Du (l:List Int) (b:Int):Int:=if l.contains b then(l.idxOf b:Int) else 0
theorem O4 (l:List Int) (c b:Int):A5 (l++[c]) b=if b=c then true else A5 l b:=by
  unfold A5
  by_cases h:b=c
  · subst h; simp
  · simp [h]
def O5 (y:Ag) (l:List Int):Int:=l.foldl (fun m b=>max m (Ao y b).lo) 0
theorem Tp (y:Ag) (x:Int) (hx:0≤x) (l:List Int):decide (x<O5 y l)=l.any fun k=>decide (x<(Ao y k).lo):=by
  have key:∀ (l:List Int)(m:Int),decide (x<l.foldl (fun m b=>max m (Ao y b).lo) m)=(decide (x<m) || l.any fun k=>decide (x<(Ao y k).lo)):=by
    intro l
    induction l with
    | nil=>intro m; exact(Bool.or_false _).symm
    | cons a r ih =>
      intro m
      rw [List.foldl_cons,ih,List.any_cons,← Bool.or_assoc]
      congr 1
      by_cases h1:x<m <;> by_cases h2:x<(Ao y a).lo <;> simp [h1,h2] <;> omega
  unfold O5
  rw [key]
  simp [Int.not_lt.2 hx]
def PX (y:Ag) (pre:List Int) (b:Int):Bool:=DI b 0 ((y.buses.length:Int)-1) && !(pre.contains b || pre.any fun k=>decide ((Ao y b).hi<(Ao y k).lo))
def HW (y:Ag):List Int→List Int→Bool
  | _,[]=>true
  | pre,b::r=>PX y pre b && HW y (pre++[b]) r
def Er (y:Ag) (order:List Int):Bool:=decide (order.length=y.buses.length) && HW y [] order
theorem U7:(Ar.mk false false false false false false false false)=A4 (A5 []):=rfl
theorem O6 (l:List Int) (x:Int) (hl:l.length≤1000):∀ (n i:Nat),l.length<n+i→i≤l.length→Ej n l x (i:Int)=some (if (l.drop i).contains x then Ex.ret true else Ex.go ())
  | 0,i,h,hi=>by omega
  | n+1,i,h,hi=>by
    rw [Ej,Bi]
    by_cases hx:i<l.length
    · simp only [hx,decide_true,cond_true,CA _ _ hx,Option.bind_some]
      rw [CW i (by omega),AR hx,List.contains_cons,O6 l x hl n (i+1) (by omega) (by omega)]
      cases hv:(l[i] == x) with
      | true =>
        have:(x == l[i])=true:=by rw [beq_iff_eq] at hv ⊢; exact hv.symm
        simp [this]
      | false =>
        have:(x == l[i])=false:=by
          cases hq:(x == l[i]) with
          | false=>rfl
          | true=>rw [beq_iff_eq] at hq; rw [hq] at hv; simp at hv
        simp [this]
    · have:i=l.length:=by omega
      subst this
      simp
theorem MX (n:Nat) (l:List Int) (x:Int) (hl:l.length≤1000) (hn:l.length<n):FN n l x=some (l.contains x):=by
  unfold FN
  have e1:=O6 l x hl n 0 (by omega) (by omega)
  rw [show((0:Nat):Int)=0 from rfl,List.drop_zero] at e1
  rw [e1]
  cases l.contains x <;> rfl
theorem It (y:Ag) (order:List Int) (i:Nat) (hi:i<order.length) (ho:order.length≤1000) (hr:∀ k,k≤i→DI (order.getD k 0) 0 ((y.buses.length:Int)-1)=true):∀ (n k:Nat),i<n+k→k≤i →
    Cq n y order (i:Int) (k:Int)=some (if ((order.take i).drop k).any (fun j=>decide ((Ao y order[i]).hi<(Ao y j).lo)) then Ex.ret false else Ex.go ())
  | 0,k,h,hk=>by omega
  | n+1,k,h,hk=>by
    rw [Cq]
    by_cases hx:k<i
    · have hx':k<(order.take i).length:=by rw [List.length_take]; omega
      have hko:k<order.length:=by omega
      have b1:DI order[k] 0 ((y.buses.length:Int)-1)=true:=by
        have:=hr k (by omega)
        rwa [List.getD_eq_getElem?_getD,List.getElem?_eq_getElem hko] at this
      have b2:DI order[i] 0 ((y.buses.length:Int)-1)=true:=by
        have:=hr i (by omega)
        rwa [List.getD_eq_getElem?_getD,List.getElem?_eq_getElem hi] at this
      simp only [show decide ((k:Int)<(i:Int))=true by simp; omega,cond_true,CA _ _ hko,CA _ _ hi,Option.bind_some,FL y b1,FL y b2]
      rw [CW k (by omega),It y order i hi ho hr n (k+1) (by omega) (by omega),AR hx',List.any_cons,List.getElem_take]
      rw [show decide ((Ao y order[k]).lo>(Ao y order[i]).hi)=decide ((Ao y order[i]).hi<(Ao y order[k]).lo) from rfl]
      cases decide ((Ao y order[i]).hi<(Ao y order[k]).lo) <;> simp
    · have:k=i:=by omega
      subst this
      simp
theorem US {α:Type} (xs:List α) (i:Nat) (h:i≤xs.length):Ra xs (i:Int)=some (xs.take i):=by
  unfold Ra
  simp [h]
theorem Iu (y:Ag) (hb:y.buses.length≤1000) (order:List Int) (ho:order.length≤400):∀ (n i:Nat),2*order.length+2<n+i→i≤order.length→(∀ k,k<i→DI (order.getD k 0) 0 ((y.buses.length:Int)-1)=true) →
    Cr n y order (i:Int)=some (if HW y (order.take i) (order.drop i) then Ex.go () else Ex.ret false)
  | 0,i,h,hi,_=>by omega
  | n+1,i,h,hi,hp=>by
    rw [Cr,Bi]
    by_cases hx:i<order.length
    · simp only [hx,decide_true,cond_true,CA _ _ hx,Option.bind_some,FU]
      rw [MK (x:=(y.buses.length:Int)-1) (by omega) (by omega),AR hx,HW]
      unfold PX
      cases h1:DI order[i] 0 ((y.buses.length:Int)-1) with
      | false=>simp
      | true =>
        have hr:∀ k,k≤i→DI (order.getD k 0) 0 ((y.buses.length:Int)-1)=true:=fun k hk=>by
          rcases Nat.lt_or_ge k i with h' | h'
          · exact hp k h'
          · obtain rfl:k=i:=by omega
            rw [List.getD_eq_getElem?_getD,List.getElem?_eq_getElem hx]
            exact h1
        simp only [Bool.not_true,cond_false,US _ _ (Nat.le_of_lt hx),Option.bind_some,MX n (order.take i) _ (by simp; omega) (by simp; omega)]
        have e1:=It y order i hx (by omega) hr n 0 (by omega) (by omega)
        rw [show((0:Nat):Int)=0 from rfl,List.drop_zero] at e1
        rw [e1]
        cases h2:(order.take i).contains order[i] with
        | true=>simp
        | false =>
          cases h3:(order.take i).any fun j=>decide ((Ao y order[i]).hi<(Ao y j).lo) with
          | true=>simp [Ex.bind]
          | false =>
            have e2:order.take i++[order[i]]=order.take (i+1):=(List.take_succ_eq_append_getElem hx).symm
            simp only [cond_false,Option.bind_some,Bool.false_eq_true,if_false,Ex.bind,Bool.or_self,Bool.not_false,Bool.and_self,Bool.true_and]
            rw [CW i (by omega),e2]
            exact Iu y hb order ho n (i+1) (by omega) (by omega) fun k hk=>hr k (by omega)
    · have:i=order.length:=by omega
      subst this
      simp [HW]
theorem LZ (n:Nat) (y:Ag) (hb:y.buses.length≤1000) (order:List Int) (ho:order.length≤400) (hn:2*order.length+2<n):DL n y order=some (Er y order):=by
  unfold DL Er
  by_cases hl:order.length=y.buses.length
  · have e1:=Iu y hb order ho n 0 (by omega) (by omega) (fun k hk=>absurd hk (Nat.not_lt_zero _))
    rw [show((0:Nat):Int)=0 from rfl,List.take_zero,List.drop_zero] at e1
    rw [e1,show((order.length:Int) != (y.buses.length:Int))=false by simp [hl]]
    cases HW y [] order <;> simp [Ex.bind,hl]
  · rw [show((order.length:Int) != (y.buses.length:Int))=true by simp; omega]
    simp [hl]
theorem BI {y:Ag} (h:A6 y=0):y.room.length≤3∧0<y.room.length∧y.buses.length≤8∧DI y.broken 0 2=true∧(y.room.all fun r=>DI r 0 8)=true∧y.buses.all D7=true∧FY [] (y.buses.map (·.turn))=false:=by
  unfold A6 at h
  split at h
  · omega
  · split at h
    · omega
    · rename_i h1 h2
      simp only [not_or] at h2
      simp only [Bool.not_eq_false,Bool.not_eq_true] at h2
      exact⟨by omega,by omega,by omega,h2.2.1,h2.2.2.1,h2.2.2.2.1,h2.2.2.2.2⟩
end Go.Proofs.YthcbemnflgjadaaGreat
namespace Go.Proofs.YthcbemnflgjadaaGreat
open Go Go.RowKit
theorem Ul {α:Type} (p:List α) (x:α) (r:List α):(p++x::r)[p.length]? = some x:=by simp
theorem Um {α:Type} (p:List α) (x z:α) (r:List α):(p++x::r).set p.length z=p++z::r:=by
  rw [List.set_append_right _ _ (Nat.le_refl _),Nat.sub_self]; rfl
theorem Jq {α:Type} (p:List α) (x:α) (r:List α) {k:Nat} (hk:k=p.length):B3 (p++x::r) (k:Int)=some x:=by subst hk; rw [Rw,Ul]
theorem ML {α:Type} (p:List α) (x z:α) (r:List α) {k:Nat} (hk:k=p.length):upd (p++x::r) (k:Int) z=some (p++z::r):=by
  subst hk; rw [Uj _ _ _ (by simp),Um]
def Ka (lt:Int→Int→Bool) (x:Int):List Int→List Int
  | []=>[x]
  | y::r=>if lt x y then y::Ka lt x r else x::y::r
def PY (lt:Int→Int→Bool) (l:List Int) (x:Int):List Int:=(Ka lt x l.reverse).reverse
def EO (lt:Int→Int→Bool) (l:List Int):List Int:=l.foldl (PY lt) []
theorem Lz (lt:Int→Int→Bool) (x:Int):∀ l,(Ka lt x l).Perm (x::l)
  | []=>.refl _
  | y::r=>by
    unfold Ka
    split
    · exact((Lz lt x r).cons y).trans (.swap x y r)
    · exact .refl _
theorem S2 (lt:Int→Int→Bool) (l:List Int) (x:Int):(PY lt l x).Perm (l++[x]):=by
  unfold PY
  refine(List.reverse_perm _).trans ((Lz lt x _).trans ?_)
  refine((List.reverse_perm l).cons x).trans ?_
  exact(List.perm_append_singleton x l).symm
theorem HX (lt:Int→Int→Bool):∀ (l acc:List Int),(l.foldl (PY lt) acc).Perm (acc++l)
  | [],acc=>by simp
  | x::r,acc=>by
    rw [List.foldl_cons]
    refine(HX lt r _).trans ?_
    refine((S2 lt acc x).append_right r).trans ?_
    simp
theorem Ds (lt:Int→Int→Bool) (l:List Int):(EO lt l).Perm l:=by simpa [EO] using HX lt l []
theorem D8 (lt:Int→Int→Bool) (l:List Int):(EO lt l).length=l.length:=(Ds lt l).length_eq
theorem O7 (lt:Int→Int→Bool) (l:List Int) (x:Int):EO lt (l++[x])=PY lt (EO lt l) x:=by simp [EO,List.foldl_append]
theorem Ma {lt:Int→Int→Bool} {le:Int→Int→Prop} (h1:∀ a b,lt a b=true→le a b) (h2:∀ a b,lt a b=false→le b a) (ht:∀ a b c,le a b→le b c→le a c) (x:Int) :
    ∀ l:List Int,l.Pairwise (fun a b=>le b a)→(Ka lt x l).Pairwise (fun a b=>le b a)
  | [],_=>by simp [Ka]
  | y::r,h=>by
    rw [List.pairwise_cons] at h
    unfold Ka
    split
    · rename_i hx
      rw [List.pairwise_cons]
      refine⟨fun z hz=>?_,Ma h1 h2 ht x r h.2⟩
      rcases List.mem_cons.1 ((Lz lt x r).mem_iff.1 hz) with rfl | hz
      · exact h1 _ _ hx
      · exact h.1 z hz
    · rename_i hx
      have hyx:=h2 x y (by simpa using hx)
      rw [List.pairwise_cons,List.pairwise_cons]
      refine⟨fun z hz=>?_,h⟩
      rcases List.mem_cons.1 hz with rfl | hz
      · exact hyx
      · exact ht _ _ _ (h.1 z hz) hyx
theorem PZ {lt:Int→Int→Bool} {le:Int→Int→Prop} (h1:∀ a b,lt a b=true→le a b) (h2:∀ a b,lt a b=false→le b a) (ht:∀ a b c,le a b→le b c→le a c) (l:List Int):(EO lt l).Pairwise le:=by
  have key:∀ (l acc:List Int),acc.Pairwise le→(l.foldl (PY lt) acc).Pairwise le:=by
    intro l
    induction l with
    | nil=>intro acc h; exact h
    | cons x r ih =>
      intro acc h
      rw [List.foldl_cons]
      refine ih _ ?_
      unfold PY
      rw [List.pairwise_reverse]
      exact Ma h1 h2 ht x _ (List.pairwise_reverse.2 h)
  exact key l [] List.Pairwise.nil
theorem MY (cmp:Int→Int→Option Int) (lt:Int→Int→Bool) (x:Int):∀ (A B:List Int)(n:Nat),A.length<n→A.length≤1000000→(∀ y∈A,∃ d,cmp x y=some d∧decide (d<0)=lt x y) →
    A0 n 0 cmp (A.reverse++x::B) (A.length:Int)=some ((Ka lt x A).reverse++B)
  | _,_,0,h,_,_=>by omega
  | [],B,n+1,_,_,_=>by
    rw [A0]
    simp [Ka]
  | y::A,B,n+1,h,hl,hc=>by
    obtain⟨d,hd,hlt⟩:=hc y (by simp)
    have hl':A.length+1≤1000000:=by simpa using hl
    have e0:(y::A).reverse++x::B=A.reverse++y::x::B:=by simp
    have e1:(y::A).reverse++x::B=(A.reverse++[y])++x::B:=by simp
    have hk:(A.reverse++[y]).length=A.length+1:=by simp
    have i1:B3 ((y::A).reverse++x::B) ((A.length+1:Nat):Int)=some x:=by rw [e1,Jq _ _ _ hk.symm]
    have i2:B3 ((y::A).reverse++x::B) (A.length:Int)=some y:=by rw [e0,Jq _ _ _ (by simp)]
    have u1:upd ((y::A).reverse++x::B) ((A.length+1:Nat):Int) y=some (A.reverse++y::y::B):=by rw [e1,ML _ _ _ _ hk.symm]; simp
    have i3:B3 (A.reverse++y::y::B) (A.length:Int)=some y:=Jq _ _ _ (by simp)
    have u2:upd (A.reverse++y::y::B) (A.length:Int) x=some (A.reverse++x::y::B):=ML _ _ _ _ (by simp)
    have w1:IntKind.i64.wrap (((A.length+1:Nat):Int)-1)=(A.length:Int):=by rw [MK (by omega) (by omega)]; omega
    have g1:decide (((A.length+1:Nat):Int)>0)=true:=decide_eq_true (by omega)
    rw [A0,List.length_cons]
    simp only [g1,cond_true,i1,i2,w1,Option.bind_some,hd,hlt]
    unfold Ka
    cases hx:lt x y with
    | false=>simp
    | true =>
      simp only [cond_true,u1,i3,u2,Option.bind_some,if_true]
      rw [MY cmp lt x A (y::B) n (by simp at h; omega) (by omega) fun z hz=>hc z (by simp [hz])]
      simp
theorem MZ (cmp:Int→Int→Option Int) (lt:Int→Int→Bool) (l:List Int) (hl:l.length≤1000) (hc:∀ x∈l,∀ y∈l,∃ d,cmp x y=some d∧decide (d<0)=lt x y):∀ (n i:Nat),2*l.length+2≤n+i→i≤l.length →
    A1 n 0 (l.length:Int) cmp (EO lt (l.take i)++l.drop i) (i:Int)=some (EO lt l)
  | 0,i,h,hi=>by omega
  | n+1,i,h,hi=>by
    rw [A1]
    by_cases hx:i<l.length
    · have h1:=MY cmp lt l[i] (EO lt (l.take i)).reverse (l.drop (i+1)) n (by simp [D8]; omega) (by simp [D8]; omega) (fun y hy=>hc _ (List.getElem_mem hx) y (by
        have:=(Ds lt (l.take i)).mem_iff.1 (List.mem_reverse.1 hy)
        exact List.mem_of_mem_take this))
      rw [List.reverse_reverse,List.length_reverse,D8,List.length_take,Nat.min_eq_left (Nat.le_of_lt hx),← AR hx] at h1
      have e1:(Ka lt l[i] (EO lt (l.take i)).reverse).reverse=EO lt (l.take (i+1)):=by
        rw [List.take_succ_eq_append_getElem hx,O7]; rfl
      rw [show decide ((i:Int)<(l.length:Int))=true by simp; omega,cond_true,h1,Option.bind_some,CW i (by omega),e1]
      exact MZ cmp lt l hl hc n (i+1) (by omega) (by omega)
    · have:i=l.length:=by omega
      subst this
      simp
theorem Px (n:Nat) (cmp:Int→Int→Option Int) (lt:Int→Int→Bool) (l:List Int) (hl:l.length≤1000) (hc:∀ x∈l,∀ y∈l,∃ d,cmp x y=some d∧decide (d<0)=lt x y) (hn:2*l.length+2≤n) :
    AW n l 0 (l.length:Int) cmp=some (EO lt l):=by
  unfold AW
  have e1:IntKind.i64.wrap (0+1)=((1:Nat):Int):=by decide
  rw [e1]
  cases l with
  | nil =>
    obtain⟨m,rfl⟩:∃ m,n=m+1:=⟨n-1,by simp at hn; omega⟩
    rw [A1]
    simp [EO]
  | cons x r =>
    have h1:=MZ cmp lt (x::r) hl hc n 1 (by omega) (by simp)
    have e2:EO lt ((x::r).take 1)++(x::r).drop 1=x::r:=by simp [EO,PY,Ka]
    rw [e2] at h1
    rw [h1]
    rfl
theorem Mb (n:Nat) (cmp:Int→Int→Option Int) (lt:Int→Int→Bool) (l:List Int) (hl:l.length≤12) (hc:∀ x∈l,∀ y∈l,∃ d,cmp x y=some d∧decide (d<0)=lt x y) (hn:2*l.length+4≤n) :
    AO n l cmp=some (EO lt l):=by
  unfold AO Fi
  have w1:IntKind.u64.wrap (l.length:Int)=(l.length:Int):=by
    simp [IntKind.wrap,IntKind.bits,IntKind.signed]; omega
  rw [w1,if_pos ⟨by simp,by simp; omega⟩]
  obtain⟨m,rfl⟩:∃ m,n=m+2:=⟨n-2,by omega⟩
  simp only [Option.bind_some]
  rw [Bg,Bk]
  have w2:IntKind.i64.wrap ((l.length:Int)-0)=(l.length:Int):=by rw [MK (by omega) (by omega)]; omega
  have c1:decide ((l.length:Int)≤12)=true:=by simp; omega
  rw [w2,c1,cond_true,Px m cmp lt l (by omega) hc (by omega)]
  rfl
theorem Mc {key:Int→Int} {l l':List Int} (hk:∀ a∈l,∀ b∈l,key a=key b→a=b) (h1:l.Pairwise fun a b=>key a≤key b) (h2:l'.Pairwise fun a b=>key a≤key b) (hp:l.Perm l'):l=l' :=
  List.Perm.eq_of_pairwise (le:=fun a b=>key a≤key b) (fun a b ha hb hab hba=>hk a ha b (hp.mem_iff.2 hb) (Int.le_antisymm hab hba)) h1 h2 hp
def DS (key:Int→Int) (a b:Int):Bool:=decide (key a<key b)
theorem FZ (key:Int→Int) (l:List Int):(EO (DS key) l).Pairwise fun a b=>key a≤key b :=
  PZ (le:=fun a b=>key a≤key b) (fun a b h=>by simp [DS] at h; omega) (fun a b h=>by simp [DS] at h; omega) (fun a b c h1 h2=>Int.le_trans h1 h2) l
end Go.Proofs.YthcbemnflgjadaaGreat
namespace Go.Proofs.YthcbemnflgjadaaGreat
open Go Go.RowKit
def Ai (n:Nat):List Int:=(List.range n).map fun(k:Nat)=>(k:Int)
theorem Ct (n:Nat):Ai (n+1)=Ai n++[(n:Int)]:=by simp [Ai,List.range_succ]
theorem AU (n:Nat):(Ai n).length=n:=by simp [Ai]
theorem Aw {n:Nat} {b:Int}:b∈Ai n↔0≤b∧b<n:=by
  unfold Ai
  rw [List.mem_map]
  constructor
  · rintro⟨k,hk,rfl⟩
    rw [List.mem_range] at hk
    omega
  · intro h
    exact⟨b.toNat,by rw [List.mem_range]; omega,by omega⟩
theorem B4 {y:Ag} {b:Int}:DI b 0 ((y.buses.length:Int)-1)=true↔b∈Ai y.buses.length:=by
  rw [Bs,Aw]; omega
theorem CF:∀ n,(Ai n).Nodup
  | 0=>by simp [Ai]
  | n+1=>by
    rw [Ct,List.nodup_append]
    refine⟨CF n,by simp,fun a ha b hb=>?_⟩
    rw [Aw] at ha
    simp at hb
    omega
def Bn (y:Ag) (b:Int):Int:=(Ao y b).turn
def L0 (y:Ag) (f:Int→Bool):List Int:=(Ai y.buses.length).filter fun b=>!f b
def AP (y:Ag) (f:Int→Bool):List Int:=EO (DS (Bn y)) (L0 y f)
theorem Na {y:Ag} {f:Int→Bool} {b:Int}:b∈L0 y f↔b∈Ai y.buses.length∧f b=false:=by
  unfold L0
  rw [List.mem_filter]
  simp
theorem BJ {y:Ag} {f:Int→Bool} {b:Int}:b∈AP y f↔b∈Ai y.buses.length∧f b=false:=by
  unfold AP
  rw [(Ds _ _).mem_iff,Na]
theorem Qa (y:Ag) (f:Int→Bool):(L0 y f).length≤y.buses.length:=by
  unfold L0
  exact Nat.le_trans (List.length_filter_le _ _) (by rw [AU]; exact Nat.le_refl _)
theorem Ga (y:Ag) (f:Int→Bool):(AP y f).length≤y.buses.length:=by
  unfold AP
  rw [D8]
  exact Qa y f
theorem Hw (y:Ag) (f:Int→Bool):(AP y f).Nodup:=by
  unfold AP
  rw [(Ds _ _).nodup_iff]
  unfold L0
  exact List.Pairwise.filter _ (CF _)
theorem Md (y:Ag) (f:Int→Bool) (hb:y.buses.length≤8):∀ (n i:Nat),y.buses.length<n+i→i≤y.buses.length →
    Bv n y (A4 f) ((Ai i).filter fun b=>!f b) (i:Int)=some (L0 y f)
  | 0,i,h,hi=>by omega
  | n+1,i,h,hi=>by
    rw [Bv,Bi]
    by_cases hx:i<y.buses.length
    · have h0:(0:Int)≤(i:Int):=by omega
      have h8:(i:Int)<8:=by omega
      simp only [hx,decide_true,cond_true,MV h0 h8,Kw _ h0 h8,Option.bind_some]
      have ih:=Md y f hb n (i+1) (by omega) (by omega)
      rw [Ct,List.filter_append] at ih
      rw [CW i (by omega)]
      have hlen:=List.length_filter_le (fun b=>!f b) (Ai i)
      rw [AU] at hlen
      cases hf:f (i:Int) with
      | true =>
        simp only [Bool.not_true,cond_false]
        rw [← ih]
        simp [hf]
      | false =>
        simp only [Bool.not_false,cond_true]
        rw [CS _ _ (by simp; omega),Option.bind_some,← ih]
        simp [hf]
    · have:i=y.buses.length:=by omega
      subst this
      simp [L0]
theorem S3 (n:Nat) {y:Ag} (hv:y.buses.all D7=true) {a b:Int} (ha:a∈Ai y.buses.length) (hb:b∈Ai y.buses.length) :
    ∃ d,B2 n a b y=some d∧decide (d<0)=DS (Bn y) a b:=by
  rw [← B4] at ha hb
  have h1:=DY hv ha
  have h2:=DY hv hb
  unfold B2
  rw [FL y ha,FL y hb]
  refine⟨_,rfl,?_⟩
  rw [MK (by omega) (by omega)]
  unfold DS Bn
  by_cases h:(Ao y a).turn<(Ao y b).turn
  · rw [decide_eq_true h,decide_eq_true (by omega)]
  · rw [decide_eq_false h,decide_eq_false (by omega)]
theorem Tq (n:Nat) (y:Ag) (f:Int→Bool) (hb:y.buses.length≤8) (hv:y.buses.all D7=true) (hn:20≤n):CE n y (A4 f)=some (AP y f):=by
  unfold CE
  have e1:=Md y f hb n 0 (by omega) (by omega)
  rw [show((0:Nat):Int)=0 from rfl] at e1
  have hl:=Qa y f
  have e2:=Mb n (fun y0 y1=>B2 n y0 y1 y) (DS (Bn y)) (L0 y f) (by omega) (fun a ha b hb=>S3 n hv (Na.1 ha).1 (Na.1 hb).1) (by omega)
  rw [show(Ai 0).filter (fun b=>!f b)=([]:List Int) from rfl] at e1
  rw [e1,Option.bind_some,e2]
  rfl
theorem HY (y:Ag) (hv:y.buses.length≤1000) (x:Int) (hx:x∈Ai y.buses.length):∀ (A B:List Int)(n:Nat),A.length<n→A.length≤1000000→(∀ z∈A,z∈Ai y.buses.length) →
    CI n y (A.reverse++x::B) (A.length:Int)=some ((Ka (DS (Bn y)) x A).reverse++B)
  | _,_,0,h,_,_=>by omega
  | [],B,n+1,_,_,_=>by
    rw [CI]
    simp [Ka]
  | z::A,B,n+1,h,hl,hc=>by
    have hl':A.length+1≤1000000:=by simpa using hl
    have e0:(z::A).reverse++x::B=A.reverse++z::x::B:=by simp
    have e1:(z::A).reverse++x::B=(A.reverse++[z])++x::B:=by simp
    have hk:(A.reverse++[z]).length=A.length+1:=by simp
    have i1:B3 ((z::A).reverse++x::B) ((A.length+1:Nat):Int)=some x:=by rw [e1,Jq _ _ _ hk.symm]
    have i2:B3 ((z::A).reverse++x::B) (A.length:Int)=some z:=by rw [e0,Jq _ _ _ (by simp)]
    have u1:upd ((z::A).reverse++x::B) ((A.length+1:Nat):Int) z=some (A.reverse++z::z::B):=by rw [e1,ML _ _ _ _ hk.symm]; simp
    have i3:B3 (A.reverse++z::z::B) (A.length:Int)=some z:=Jq _ _ _ (by simp)
    have u2:upd (A.reverse++z::z::B) (A.length:Int) x=some (A.reverse++x::z::B):=ML _ _ _ _ (by simp)
    have w1:IntKind.i64.wrap (((A.length+1:Nat):Int)-1)=(A.length:Int):=by rw [MK (by omega) (by omega)]; omega
    have g1:decide (((A.length+1:Nat):Int)>0)=true:=decide_eq_true (by omega)
    rw [CI,List.length_cons]
    simp only [g1,cond_true,i1,i2,w1,Option.bind_some,FL y (B4.2 hx),FL y (B4.2 (hc z (by simp)))]
    rw [show decide ((Ao y x).turn<(Ao y z).turn)=DS (Bn y) x z from rfl]
    unfold Ka
    cases hq:DS (Bn y) x z with
    | false=>simp
    | true =>
      simp only [cond_true,u1,i3,u2,Option.bind_some,if_true]
      rw [HY y hv x hx A (z::B) n (by simp at h; omega) (by omega) fun q hq=>hc q (by simp [hq])]
      simp
theorem HZ (y:Ag) (broken:List Int) (hb:y.buses.length≤20) (hbr:broken.length≤20):∀ (n i:Nat),60≤n+i→i≤y.buses.length →
    CJ n y broken (EO (DS (Bn y)) ((Ai i).filter fun b=>!A5 broken b)) (i:Int)=some (AP y (A5 broken))
  | 0,i,h,hi=>by omega
  | n+1,i,h,hi=>by
    rw [CJ,Bi]
    by_cases hx:i<y.buses.length
    · simp only [hx,decide_true,cond_true,MX n broken _ (by omega) (by omega),Option.bind_some]
      have ih:=HZ y broken hb hbr n (i+1) (by omega) (by omega)
      rw [Ct,List.filter_append] at ih
      rw [CW i (by omega)]
      have hlen:=List.length_filter_le (fun b=>!A5 broken b) (Ai i)
      rw [AU] at hlen
      rw [show broken.contains (i:Int)=A5 broken (i:Int) from rfl]
      cases hf:A5 broken (i:Int) with
      | true =>
        simp only [cond_true]
        rw [← ih]
        simp [hf]
      | false =>
        simp only [cond_false]
        have hq:(EO (DS (Bn y)) ((Ai i).filter fun b=>!A5 broken b)).length≤i:=by rw [D8]; exact hlen
        rw [CS _ _ (by simp; omega),Option.bind_some]
        have e1:=HY y (by omega) (i:Int) (by rw [Aw]; omega) (EO (DS (Bn y)) ((Ai i).filter fun b=>!A5 broken b)).reverse [] n (by rw [List.length_reverse]; omega) (by rw [List.length_reverse]; omega) (fun z hz=>by
          have:=(Ds _ _).mem_iff.1 (List.mem_reverse.1 hz)
          have:=(List.mem_filter.1 this).1
          rw [Aw] at this ⊢
          omega)
        rw [List.reverse_reverse,List.length_reverse,List.append_nil] at e1
        have w1:IntKind.i64.wrap ((((EO (DS (Bn y)) ((Ai i).filter fun b=>!A5 broken b)++[(i:Int)]).length:Nat):Int)-1)=((EO (DS (Bn y)) ((Ai i).filter fun b=>!A5 broken b)).length:Int):=by
          rw [List.length_append,List.length_singleton,MK (by omega) (by omega)]; omega
        rw [w1,e1,Option.bind_some,← ih]
        simp only [hf,List.filter_cons,List.filter_nil,Bool.not_false,if_true,O7]
        rfl
    · have:i=y.buses.length:=by omega
      subst this
      simp [AP,L0]
theorem Py (n:Nat) (y:Ag) (broken:List Int) (hb:y.buses.length≤20) (hbr:broken.length≤20) (hn:60≤n):Hc n y broken=some (AP y (A5 broken)):=by
  unfold Hc
  have e1:=HZ y broken hb hbr n 0 (by omega) (by omega)
  rw [show((0:Nat):Int)=0 from rfl,show EO (DS (Bn y)) ((Ai 0).filter fun b=>!A5 broken b)=[] from rfl] at e1
  rw [e1]
  rfl
def E2 (m:Nat) (g:Int→Int):List Int:=(Ai m).map g
theorem Jr (m:Nat) (g:Int→Int):(E2 m g).length=m:=by simp [E2,AU]
theorem Pz {m:Nat} {g:Int→Int} {k:Nat} (h:k<m):(E2 m g)[k]? = some (g (k:Int)):=by
  unfold E2 Ai
  rw [List.getElem?_map,List.getElem?_map,List.getElem?_range h]
  rfl
theorem Kx {m:Nat} {g:Int→Int} {b:Int} (h:DI b 0 ((m:Int)-1)=true):B3 (E2 m g) b=some (g b):=by
  rw [Bs] at h
  obtain⟨k,rfl⟩:=Int.eq_ofNat_of_zero_le h.1
  rw [Rw,Pz (by omega)]
theorem P0 {m:Nat} {g:Int→Int} {l:List Int} (hl:l.length=m) (h:∀ k,k<m→l[k]? = some (g (k:Int))):l=E2 m g:=by
  apply List.ext_getElem?
  intro k
  rcases Nat.lt_or_ge k m with hk | hk
  · rw [h k hk,Pz hk]
  · rw [List.getElem?_eq_none (by omega),List.getElem?_eq_none (by rw [Jr]; omega)]
theorem MM {m:Nat} {g:Int→Int} {b v:Int} (h:DI b 0 ((m:Int)-1)=true):upd (E2 m g) b v=some (E2 m fun x=>if x=b then v else g x):=by
  rw [Bs] at h
  obtain⟨k,rfl⟩:=Int.eq_ofNat_of_zero_le h.1
  rw [Uj _ _ _ (by rw [Jr]; omega)]
  congr 1
  refine P0 (by rw [List.length_set,Jr]) fun j hj=>?_
  by_cases hjk:j=k
  · subst hjk
    rw [List.getElem?_set_self (by rw [Jr]; omega)]
    simp
  · rw [List.getElem?_set_ne (Ne.symm hjk),Pz hj,if_neg (by omega)]
theorem Nb (l:List Int):l=E2 l.length fun k=>l.getD k.toNat 0:=P0 rfl fun k hk=>by
  rw [List.getElem?_eq_getElem hk]
  simp [List.getD_eq_getElem?_getD,List.getElem?_eq_getElem hk]
theorem Tr (m:Nat):List.replicate m (0:Int)=E2 m fun _=>0:=P0 (by simp) fun k hk=>by
  rw [List.getElem?_replicate,if_pos hk]
def Bt (room:List Int) (k:Int):Int:=room.getD k.toNat 0
def BK (room:List Int):List Int→List Int→Bool
  | _,[]=>true
  | pre,n::r=>DI n 0 ((room.length:Int)-1) && (decide ((pre.count n:Int)<Bt room n) && BK room (pre++[n]) r)
def B0 (y:Ag) (l:List Int):Bool:=decide (l.length=y.buses.length) && BK y.room [] l
theorem Js {room:List Int} (h:(room.all fun r=>DI r 0 8)=true) {k:Int} (hk:DI k 0 ((room.length:Int)-1)=true):0≤Bt room k∧Bt room k≤8:=by
  rw [Bs] at hk
  have hl:k.toNat<room.length:=by omega
  unfold Bt
  rw [List.getD_eq_getElem?_getD,List.getElem?_eq_getElem hl]
  exact Bs.1 (List.all_eq_true.1 h _ (List.getElem_mem hl))
theorem EP (pre:List Int) (n k:Int):((pre++[n]).count k:Int)=(pre.count k:Int)+(if k=n then 1 else 0):=by
  rw [List.count_append,List.count_singleton]
  by_cases h:k=n
  · subst h; simp
  · have:(n == k)=false:=by
      cases hq:(n == k) with
      | false=>rfl
      | true=>rw [beq_iff_eq] at hq; exact absurd hq.symm h
    simp [h,this]
theorem Me (room:List Int) (hr:(room.all fun r=>DI r 0 8)=true) (hm:room.length≤1000) (l:List Int) (hl:l.length≤1000):∀ (n i:Nat),l.length<n+i→i≤l.length→(∀ k,DI k 0 ((room.length:Int)-1)=true→((l.take i).count k:Int)≤Bt room k) →
    ∃ r,BA n l (E2 room.length fun k=>Bt room k-((l.take i).count k:Int)) (i:Int)=some r∧(if BK room (l.take i) (l.drop i) then ∃ x,r=Ex.go x else r=Ex.ret false)
  | 0,i,h,hi,_=>by omega
  | n+1,i,h,hi,hc=>by
    rw [BA,Bi]
    by_cases hx:i<l.length
    · simp only [hx,decide_true,cond_true,CA _ _ hx,Option.bind_some,Jp,Jr]
      rw [MK (x:=(room.length:Int)-1) (by omega) (by omega),AR hx,BK]
      cases h1:DI l[i] 0 ((room.length:Int)-1) with
      | false=>exact⟨_,rfl,by simp⟩
      | true =>
        have hk:=hc _ h1
        have hR:=Js hr h1
        simp only [Bool.not_true,cond_false,Kx h1,Option.bind_some]
        by_cases h2:((l.take i).count l[i]:Int)<Bt room l[i]
        · have e0:(Bt room l[i]-((l.take i).count l[i]:Int) == 0)=false:=by
            cases hq:(Bt room l[i]-((l.take i).count l[i]:Int) == 0) with
            | false=>rfl
            | true=>rw [beq_iff_eq] at hq; omega
          rw [e0]
          simp only [cond_false,MM h1,Option.bind_some]
          rw [CW i (by omega),MK (by omega) (by omega),decide_eq_true h2]
          have e1:l.take i++[l[i]]=l.take (i+1):=(List.take_succ_eq_append_getElem hx).symm
          have e2:(E2 room.length fun x=>if x=l[i] then Bt room l[i]-((l.take i).count l[i]:Int)-1 else Bt room x-((l.take i).count x:Int))=E2 room.length fun k=>Bt room k-((l.take (i+1)).count k:Int):=by
            congr 1
            funext x
            rw [← e1,EP]
            by_cases hxe:x=l[i]
            · rw [if_pos hxe,if_pos hxe,hxe]; omega
            · rw [if_neg hxe,if_neg hxe]; omega
          rw [e1,e2]
          simp only [Bool.true_and]
          refine Me room hr hm l hl n (i+1) (by omega) (by omega) fun k hkk=>?_
          rw [← e1,EP]
          have:=hc k hkk
          split
          · rename_i hke; rw [hke]; omega
          · omega
        · have e0:(Bt room l[i]-((l.take i).count l[i]:Int) == 0)=true:=by rw [beq_iff_eq]; omega
          rw [e0,decide_eq_false h2]
          exact⟨_,rfl,by simp⟩
    · have:i=l.length:=by omega
      subst this
      exact⟨Ex.go _,by simp; rfl,by simp [BK]⟩
theorem Qb (n:Nat) (y:Ag) (hr:(y.room.all fun r=>DI r 0 8)=true) (hm:y.room.length≤1000) (l:List Int) (hl:l.length≤1000) (hn:l.length<n):CD n y l=some (B0 y l):=by
  unfold CD B0
  by_cases he:l.length=y.buses.length
  · rw [show((l.length:Int) != (y.buses.length:Int))=false by simp [he],cond_false,Kv n _ hm,Option.bind_some]
    obtain⟨r,h1,h2⟩:=Me y.room hr hm l hl n 0 (by omega) (by omega) (fun k hk=>by simp; exact(Js hr hk).1)
    have e1:(E2 y.room.length fun k=>Bt y.room k-(((l.take 0).count k:Nat):Int))=y.room:=by
      refine Eq.trans ?_ (Nb y.room).symm
      congr 1
      funext k
      simp [Bt]
    rw [e1,show((0:Nat):Int)=0 from rfl] at h1
    rw [h1]
    simp only [List.take_zero,List.drop_zero] at h2
    split at h2
    · rename_i hq
      obtain⟨x,rfl⟩:=h2
      simp [Ex.bind,he,hq]
    · rename_i hq
      subst h2
      simp [Ex.bind,he,hq]
  · rw [show((l.length:Int) != (y.buses.length:Int))=true by simp; omega]
    simp [he]
theorem J9 (y:Ag) (hr:(y.room.all fun r=>DI r 0 8)=true) (hm:y.room.length≤1000) (l:List Int) (hl:l.length≤1000):∀ (n i:Nat),l.length<n+i→i≤l.length →
    ∃ r,C4 n y l (E2 y.room.length fun k=>((l.take i).count k:Int)) (i:Int)=some r∧(if BK y.room (l.take i) (l.drop i) then ∃ x,r=Ex.go x else r=Ex.ret false)
  | 0,i,h,hi=>by omega
  | n+1,i,h,hi=>by
    rw [C4,Bi]
    by_cases hx:i<l.length
    · simp only [hx,decide_true,cond_true,CA _ _ hx,Option.bind_some,FU]
      rw [MK (x:=(y.room.length:Int)-1) (by omega) (by omega),AR hx,BK]
      cases h1:DI l[i] 0 ((y.room.length:Int)-1) with
      | false=>exact⟨_,rfl,by simp⟩
      | true =>
        have hR:=Js hr h1
        have hcl:(l.take i).count l[i]≤1000:=Nat.le_trans List.count_le_length (by rw [List.length_take]; omega)
        have er:B3 y.room l[i]=some (Bt y.room l[i]):=by
          have:=Kx (g:=fun k=>y.room.getD k.toNat 0) h1
          rwa [← Nb y.room] at this
        simp only [Bool.not_true,cond_false,Kx h1,MM h1,Option.bind_some,er,if_true]
        rw [CW i (by omega),MK (by omega) (by omega)]
        have e1:l.take i++[l[i]]=l.take (i+1):=(List.take_succ_eq_append_getElem hx).symm
        have e2:(E2 y.room.length fun x=>if x=l[i] then((l.take i).count l[i]:Int)+1 else((l.take i).count x:Int))=E2 y.room.length fun k=>((l.take (i+1)).count k:Int):=by
          congr 1
          funext x
          rw [← e1,EP]
          by_cases hxe:x=l[i]
          · rw [if_pos hxe,if_pos hxe,hxe]
          · rw [if_neg hxe,if_neg hxe]; omega
        rw [e1,e2]
        by_cases h2:((l.take i).count l[i]:Int)<Bt y.room l[i]
        · rw [decide_eq_true h2,decide_eq_false (show ¬ ((l.take i).count l[i]:Int)+1>Bt y.room l[i] by omega)]
          simp only [cond_false,Bool.true_and]
          exact J9 y hr hm l hl n (i+1) (by omega) (by omega)
        · rw [decide_eq_false h2,decide_eq_true (show((l.take i).count l[i]:Int)+1>Bt y.room l[i] by omega)]
          exact⟨_,rfl,by simp⟩
    · have:i=l.length:=by omega
      subst this
      exact⟨Ex.go _,by simp; rfl,by simp [BK]⟩
theorem Kb (n:Nat) (y:Ag) (hr:(y.room.all fun r=>DI r 0 8)=true) (hm:y.room.length≤1000) (l:List Int) (hl:l.length≤1000) (hn:l.length<n):Et n y l=some (B0 y l):=by
  unfold Et B0
  by_cases he:l.length=y.buses.length
  · rw [show((l.length:Int) != (y.buses.length:Int))=false by simp [he],cond_false,Vw _ _ (by omega),Option.bind_some]
    obtain⟨r,h1,h2⟩:=J9 y hr hm l hl n 0 (by omega) (by omega)
    have e1:(E2 y.room.length fun k=>(((l.take 0).count k:Nat):Int))=List.replicate y.room.length 0:=by
      rw [Tr]
      congr 1
    rw [e1,show((0:Nat):Int)=0 from rfl] at h1
    rw [h1]
    simp only [List.take_zero,List.drop_zero] at h2
    split at h2
    · rename_i hq
      obtain⟨x,rfl⟩:=h2
      simp [Ex.bind,he,hq]
    · rename_i hq
      subst h2
      simp [Ex.bind,he,hq]
  · rw [show((l.length:Int) != (y.buses.length:Int))=true by simp; omega]
    simp [he]
end Go.Proofs.YthcbemnflgjadaaGreat
namespace Go.Proofs.YthcbemnflgjadaaGreat
open Go Go.RowKit
def JA (y:Ag):Int→List Int→Bool
  | _,[]=>true
  | last,b::r=>DI b 0 ((y.buses.length:Int)-1) && (decide (last<b) && JA y b r)
def E3 (y:Ag) (l:List Int):Bool:=JA y (-1) l && decide ((l.length:Int)≤y.broken)
def Kc (l:List Int) (i:Nat):Int:=if i=0 then -1 else l.getD (i-1) 0
theorem Iv (y:Ag) (hb:y.buses.length≤1000) (l:List Int) (hl:l.length≤1000):∀ (n i:Nat),l.length<n+i→i≤l.length →
    BQ n y l (i:Int)=some (if JA y (Kc l i) (l.drop i) then Ex.go () else Ex.ret false)
  | 0,i,h,hi=>by omega
  | n+1,i,h,hi=>by
    rw [BQ,Bi]
    by_cases hx:i<l.length
    · simp only [hx,decide_true,cond_true,CA _ _ hx,Option.bind_some,FU]
      rw [MK (x:=(y.buses.length:Int)-1) (by omega) (by omega),AR hx,JA,CW i (by omega)]
      cases h1:DI l[i] 0 ((y.buses.length:Int)-1) with
      | false=>simp
      | true =>
        have h1':=Bs.1 h1
        have ih:=Iv y hb l hl n (i+1) (by omega) (by omega)
        have hla:Kc l (i+1)=l[i]:=by
          unfold Kc
          rw [if_neg (by omega),Nat.add_sub_cancel,List.getD_eq_getElem?_getD,List.getElem?_eq_getElem hx]
          rfl
        rw [hla] at ih
        simp only [Bool.not_true,cond_false]
        cases i with
        | zero =>
          have:Kc l 0<l[0]:=by
            show(-1:Int)<_
            omega
          rw [decide_eq_true this]
          simpa using ih
        | succ j =>
          have hj:j<l.length:=by omega
          have hlj:Kc l (j+1)=l[j]:=by
            unfold Kc
            rw [if_neg (by omega),Nat.add_sub_cancel,List.getD_eq_getElem?_getD,List.getElem?_eq_getElem hj]
            rfl
          have w1:IntKind.i64.wrap (((j+1:Nat):Int)-1)=(j:Int):=by rw [MK (by omega) (by omega)]; omega
          rw [decide_eq_true (show((j+1:Nat):Int)>0 by omega),w1,CA _ _ hj,hlj]
          simp only [cond_true,Option.bind_some,ih]
          by_cases h2:l[j]<l[j+1]
          · rw [decide_eq_true h2,decide_eq_false (show ¬ l[j+1]≤l[j] by omega)]
            simp
          · rw [decide_eq_false h2,decide_eq_true (show l[j+1]≤l[j] by omega)]
            simp
    · have:i=l.length:=by omega
      subst this
      simp [JA]
theorem Qc (n:Nat) (y:Ag) (hb:y.buses.length≤1000) (l:List Int) (hl:l.length≤1000) (hn:l.length<n):E4 n y l=some (E3 y l):=by
  unfold E4 E3
  have e1:=Iv y hb l hl n 0 (by omega) (by omega)
  rw [show((0:Nat):Int)=0 from rfl,List.drop_zero,show Kc l 0=-1 from rfl] at e1
  rw [e1,Option.bind_some]
  cases JA y (-1) l <;> simp [Ex.bind]
def Ky (y:Ag) (lanes order broken:List Int):Bool:=B0 y lanes && (Er y order && E3 y broken)
def FM (y:Ag) (lanes order broken:List Int):Int:=if A6 y=0 then(if Ky y lanes order broken then 0 else 2) else A6 y
theorem Kz {σ:Type} (step:σ→Int→Option σ) (q:List Int) (hq:q.length≤1000):∀ (n i:Nat)(s:σ),q.length<n+i→i≤q.length →
    AM n (fun s x=>(step s x).bind fun s1=>some (s1,true)) q (i:Int) s=((q.drop i).foldlM step s).map Ex.go
  | 0,i,s,h,hi=>by omega
  | n+1,i,s,h,hi=>by
    rw [AM,Bi]
    by_cases hx:i<q.length
    · simp only [hx,decide_true,cond_true,CA _ _ hx,Option.bind_some]
      rw [CW i (by omega),AR hx,List.foldlM_cons]
      cases hs:step s q[i] with
      | none=>rfl
      | some s' =>
        simp only [Option.bind_some,Bool.not_true,cond_false]
        rw [Kz step q hq n (i+1) s' (by omega) (by omega)]
        rfl
    · have:i=q.length:=by omega
      subst this
      simp
theorem S4 {σ:Type} (n:Nat) (step:σ→Int→Option σ) (s:σ) (q:List Int) (hq:q.length≤1000) (hn:q.length<n) :
    Br n (fun s x=>(step s x).bind fun s1=>some (s1,true)) s q=q.foldlM step s:=by
  unfold Br
  have e1:=Kz step q hq n 0 s (by omega) (by omega)
  rw [show((0:Nat):Int)=0 from rfl,List.drop_zero] at e1
  rw [e1]
  cases q.foldlM step s <;> rfl
def A8 (lanes:List Int) (b:Int):Int:=lanes.getD b.toNat 0
theorem K0 (lanes:List Int) {b:Int} (h0:0≤b) (h:b<lanes.length):B3 lanes b=some (A8 lanes b):=by
  obtain⟨k,rfl⟩:=Int.eq_ofNat_of_zero_le h0
  rw [CA _ _ (by omega)]
  unfold A8
  simp [List.getD_eq_getElem?_getD,List.getElem?_eq_getElem (show k<lanes.length by omega)]
def S5 (lanes order:List Int) (c b:Int):Bool:=A8 lanes c == A8 lanes b && decide (Du order c<Du order b)
def Qd (y:Ag) (lanes order:List Int) (g:Int→Bool) (b:Int) (k:Nat):List Int:=(Ai k).filter fun c=>!g c && S5 lanes order c b
def Dv (y:Ag) (lanes order:List Int) (g:Int→Bool) (b:Int):List Int:=EO (DS (Du order)) (Qd y lanes order g b y.buses.length)
def Nc (y:Ag) (lanes order:List Int) (g:Int→Bool) (b:Int):Int→Bool:=fun x=>if x=b then true else(g x || A5 (Dv y lanes order g b) x)
def B5 (y:Ag) (lanes order:List Int):(Int→Bool)→List Int→List (List Int)
  | _,[]=>[]
  | g,b::r=>Dv y lanes order g b::B5 y lanes order (Nc y lanes order g b) r
theorem Hx (y:Ag) (lanes order:List Int):∀ (ts:List Int)(g:Int→Bool),(B5 y lanes order g ts).length=ts.length
  | [],_=>rfl
  | b::r,g=>by rw [B5,List.length_cons,List.length_cons,Hx]
theorem S6 {y:Ag} {lanes order:List Int} {g:Int→Bool} {b:Int} {k:Nat} {c:Int}:c∈Qd y lanes order g b k↔c∈Ai k∧g c=false∧S5 lanes order c b=true:=by
  unfold Qd
  rw [List.mem_filter]
  simp
theorem EQ {y:Ag} {lanes order:List Int} {g:Int→Bool} {b:Int} {c:Int}:c∈Dv y lanes order g b↔c∈Ai y.buses.length∧g c=false∧S5 lanes order c b=true:=by
  unfold Dv
  rw [(Ds _ _).mem_iff,S6]
theorem S7 (y:Ag) (lanes order:List Int) (g:Int→Bool) (b:Int) (k:Nat):(Qd y lanes order g b k).length≤k:=by
  unfold Qd
  exact Nat.le_trans (List.length_filter_le _ _) (by rw [AU]; exact Nat.le_refl _)
end Go.Proofs.YthcbemnflgjadaaGreat
namespace Go.Proofs.YthcbemnflgjadaaGreat
open Go Go.RowKit
theorem Nd (y:Ag):∀ (l pre:List Int),pre.Nodup→HW y pre l=true→(pre++l).Nodup∧∀ b∈l,b∈Ai y.buses.length
  | [],pre,hp,_=>by simpa using hp
  | b::r,pre,hp,h=>by
    unfold HW PX at h
    simp only [Bool.and_eq_true,Bool.not_eq_true',Bool.or_eq_false_iff] at h
    obtain⟨⟨h1,h2,_⟩,h4⟩:=h
    have hb:b ∉ pre:=by simpa using h2
    have hp':(pre++[b]).Nodup:=by
      rw [List.nodup_append]
      refine⟨hp,by simp,fun a ha c hc=>?_⟩
      simp at hc
      rintro rfl
      exact hb (hc▸ha)
    obtain⟨q1,q2⟩:=Nd y r (pre++[b]) hp' h4
    refine⟨by simpa using q1,fun c hc=>?_⟩
    rcases List.mem_cons.1 hc with rfl | hc
    · exact B4.1 h1
    · exact q2 c hc
theorem R0:∀ (l m:List Int),l.Nodup→(∀ x∈l,x∈m)→m.length≤l.length→∀ x∈m,x∈l
  | [],m,_,_,hl,x,hx=>by
    have:m=[]:=List.eq_nil_of_length_eq_zero (by simpa using hl)
    rw [this] at hx
    simp at hx
  | a::l,m,hn,hs,hl,x,hx=>by
    rw [List.nodup_cons] at hn
    by_cases hxa:x=a
    · simp [hxa]
    · have ha:a∈m:=hs a (by simp)
      refine List.mem_cons_of_mem _ (R0 l (m.erase a) hn.2 (fun z hz=>?_) ?_ x ((List.mem_erase_of_ne hxa).2 hx))
      · have hza:z≠a:=fun h=>hn.1 (h▸hz)
        exact(List.mem_erase_of_ne hza).2 (hs z (by simp [hz]))
      · rw [List.length_erase_of_mem ha]
        simp at hl
        omega
structure Hy (y:Ag) (order:List Int):Prop where
  nd:order.Nodup
  len:order.length=y.buses.length
  mem:∀ b,b∈order↔b∈Ai y.buses.length
theorem ER {y:Ag} {order:List Int} (h:Er y order=true):Hy y order:=by
  unfold Er at h
  simp only [Bool.and_eq_true,decide_eq_true_eq] at h
  obtain⟨h1,h2⟩:=Nd y order [] List.nodup_nil h.2
  rw [List.nil_append] at h1
  exact⟨h1,h.1,fun b=>⟨h2 b,R0 order (Ai y.buses.length) h1 h2 (by rw [AU,h.1]; exact Nat.le_refl _) b⟩⟩
theorem Nf {a:List Int} {b:Int} {r:List Int} (hn:(a++b::r).Nodup):Du (a++b::r) b=a.length∧(∀ c∈a,Du (a++b::r) c<a.length)∧(∀ c∈r,(a.length:Int)<Du (a++b::r) c):=by
  rw [List.nodup_append] at hn
  obtain⟨h1,h2,h3⟩:=hn
  rw [List.nodup_cons] at h2
  have hba:b ∉ a:=fun h=>h3 b h b (by simp) rfl
  refine⟨?_,fun c hc=>?_,fun c hc=>?_⟩
  · unfold Du
    simp [List.idxOf_append,hba]
  · unfold Du
    have hl:=List.idxOf_lt_length_iff.2 hc
    simp [List.idxOf_append,hc]
    omega
  · have hca:c ∉ a:=fun h=>h3 c h c (by simp [hc]) rfl
    have hcb:c≠b:=fun h=>h2.1 (h▸hc)
    unfold Du
    have hbc:(b == c)=false:=by
      cases hq:(b == c) with
      | false=>rfl
      | true=>rw [beq_iff_eq] at hq; exact absurd hq.symm hcb
    simp [List.idxOf_append,hca,hc,List.idxOf_cons,hbc]
    omega
theorem K1:∀ (r a:List Int),(a++r).Nodup→r.Pairwise fun c d=>Du (a++r) c≤Du (a++r) d
  | [],_,_=>List.Pairwise.nil
  | b::r,a,hn=>by
    obtain⟨h1,h2,h3⟩:=Nf hn
    rw [List.pairwise_cons]
    refine⟨fun c hc=>by rw [h1]; exact Int.le_of_lt (h3 c hc),?_⟩
    have:=K1 r (a++[b]) (by simpa using hn)
    simpa using this
theorem Ng {l:List Int} {a b:Int} (ha:a∈l) (hb:b∈l) (h:Du l a=Du l b):a=b:=by
  unfold Du at h
  simp only [List.contains_iff_mem,ha,hb,if_true] at h
  have h':l.idxOf a=l.idxOf b:=by omega
  have q1:=List.idxOf_lt_length_iff.2 ha
  have q2:=List.idxOf_lt_length_iff.2 hb
  have e1:=List.getElem_idxOf q1
  have e2:=List.getElem_idxOf q2
  rw [← e1,← e2]
  congr 1
def Hz (lanes:List Int) (gone:List Int) (b:Int) (rest:List Int):List Int:=(rest.takeWhile fun c=>c != b).filter fun c=>A8 lanes c == A8 lanes b && !gone.contains c
theorem D2 (lanes order:List Int) (hl:lanes.length≤100) (ho:order.length≤100) (hr:∀ c∈order,0≤c∧c<lanes.length) (b:Int) (hb:0≤b∧b<lanes.length) (hn:order.Nodup) (i:Nat):∀ (n k:Nat)(out:List (List Int))(cur:List Int)(gone:List Int),300≤n+k→k≤order.length→out[i]? = some cur→cur.length+order.length≤200+k→gone.length+order.length≤200+k →
    Cj n lanes order (i:Int) b out gone (k:Int)=some (out.set i (cur++Hz lanes gone b (order.drop k)),gone++Hz lanes gone b (order.drop k))
  | 0,k,out,cur,gone,h,hk,_,_,_=>by omega
  | n+1,k,out,cur,gone,h,hk,hi,hc1,hc2=>by
    have hil:i<out.length:=(List.getElem?_eq_some_iff.1 hi).1
    rw [Cj,Bi]
    by_cases hx:k<order.length
    · simp only [hx,decide_true,cond_true,CA _ _ hx,Option.bind_some]
      have hck:=hr order[k] (List.getElem_mem hx)
      rw [CW k (by omega)]
      cases hq:(order[k] != b) with
      | false =>
        have:Hz lanes gone b (order.drop k)=[]:=by
          unfold Hz
          rw [AR hx,List.takeWhile_cons,hq]
          rfl
        rw [this]
        simp only [cond_false,List.append_nil]
        have:out.set i cur=out:=by
          apply List.ext_getElem?
          intro j
          by_cases hj:j=i
          · subst hj; rw [List.getElem?_set_self hil,hi]
          · rw [List.getElem?_set_ne (Ne.symm hj)]
        rw [this]
      | true =>
        simp only [cond_true,K0 lanes hck.1 hck.2,K0 lanes hb.1 hb.2,Option.bind_some]
        have hd:Hz lanes gone b (order.drop k)=(if A8 lanes order[k] == A8 lanes b && !gone.contains order[k] then [order[k]] else [])++Hz lanes gone b (order.drop (k+1)):=by
          unfold Hz
          rw [AR hx,List.takeWhile_cons,hq,if_pos rfl,List.filter_cons]
          split <;> rfl
        rw [hd]
        cases h1:(A8 lanes order[k] == A8 lanes b) with
        | false =>
          simp only [cond_false,Option.bind_some,Bool.false_and,Bool.false_eq_true,if_false,List.nil_append]
          exact D2 lanes order hl ho hr b hb hn i n (k+1) out cur gone (by omega) (by omega) hi (by omega) (by omega)
        | true =>
          simp only [cond_true,MX n gone _ (by omega) (by omega),Option.bind_some]
          cases h2:gone.contains order[k] with
          | true =>
            simp only [Bool.not_true,cond_false,Bool.and_false,Bool.false_eq_true,if_false,List.nil_append]
            exact D2 lanes order hl ho hr b hb hn i n (k+1) out cur gone (by omega) (by omega) hi (by omega) (by omega)
          | false =>
            have hset:B3 out (i:Int)=some cur:=by rw [Rw,hi]
            simp only [Bool.not_false,cond_true,Bool.and_true,if_true,hset,Option.bind_some]
            rw [CS _ _ (by simp; omega)]
            simp only [Option.bind_some]
            rw [Uj _ _ _ hil]
            simp only [Option.bind_some]
            rw [CS _ _ (by simp; omega)]
            simp only [Option.bind_some]
            rw [D2 lanes order hl ho hr b hb hn i n (k+1) (out.set i (cur++[order[k]])) (cur++[order[k]]) (gone++[order[k]]) (by omega) (by omega) (List.getElem?_set_self hil) (by simp; omega) (by simp; omega)]
            have hsame:Hz lanes (gone++[order[k]]) b (order.drop (k+1))=Hz lanes gone b (order.drop (k+1)):=by
              unfold Hz
              apply List.filter_congr
              intro c hcm
              have hcd:c∈order.drop (k+1):=(List.takeWhile_sublist _).mem hcm
              have hne:c≠order[k]:=by
                have hn2:(order.drop k).Nodup:=List.Pairwise.sublist (List.drop_sublist k order) hn
                rw [AR hx,List.nodup_cons] at hn2
                exact fun he=>hn2.1 (he▸hcd)
              have:(gone++[order[k]]).contains c=gone.contains c:=by
                rw [Bool.eq_iff_iff]
                simp [hne]
              rw [this]
            rw [hsame,List.set_set,List.append_assoc,List.append_assoc]
    · have:k=order.length:=by omega
      subst this
      have h0:Hz lanes gone b (order.drop order.length)=[]:=by simp [Hz]
      rw [h0]
      simp only [Nat.lt_irrefl,decide_false,cond_false,Option.bind_some,List.append_nil]
      have:out.set i cur=out:=by
        apply List.ext_getElem?
        intro j
        by_cases hj:j=i
        · subst hj; rw [List.getElem?_set_self hil,hi]
        · rw [List.getElem?_set_ne (Ne.symm hj)]
      rw [this]
theorem F3 {a r:List Int} {b:Int} (h:b ∉ a):(a++b::r).takeWhile (fun c=>c != b)=a:=by
  rw [List.takeWhile_append_of_pos (fun c hc=>by
    have:c≠b:=fun he=>h (he▸hc)
    simp [this]),List.takeWhile_cons]
  simp
theorem R1 {y:Ag} {lanes order:List Int} (hO:Hy y order) {g:Int→Bool} {gone:List Int} (hg:∀ x,g x=gone.contains x) {b:Int} (hb:b∈Ai y.buses.length):Dv y lanes order g b=Hz lanes gone b order:=by
  obtain⟨a,r,rfl⟩:=List.append_of_mem ((hO.mem b).2 hb)
  obtain⟨p1,p2,p3⟩:=Nf hO.nd
  have hba:b ∉ a:=by
    have:=hO.nd
    rw [List.nodup_append] at this
    exact fun h=>this.2.2 b h b (by simp) rfl
  have hna:a.Nodup:=by have:=hO.nd; rw [List.nodup_append] at this; exact this.1
  have key:∀ c,c∈Dv y lanes (a++b::r) g b↔c∈Hz lanes gone b (a++b::r):=fun c=>by
    rw [EQ]
    unfold Hz S5
    rw [F3 hba,List.mem_filter,← hO.mem c]
    simp only [Bool.and_eq_true,beq_iff_eq,decide_eq_true_eq,Bool.not_eq_true',p1,hg]
    constructor
    · rintro⟨h1,h2,h3,h4⟩
      refine⟨?_,h3,h2⟩
      rcases List.mem_append.1 h1 with h1 | h1
      · exact h1
      · rcases List.mem_cons.1 h1 with rfl | h1
        · rw [p1] at h4; omega
        · have:=p3 c h1; omega
    · rintro⟨h1,h2,h3⟩
      exact⟨by simp [h1],h3,h2,p2 c h1⟩
  have hsorted:(Hz lanes gone b (a++b::r)).Pairwise fun c d=>Du (a++b::r) c≤Du (a++b::r) d:=by
    unfold Hz
    rw [F3 hba]
    refine List.Pairwise.filter _ ?_
    exact List.Pairwise.sublist (List.sublist_append_left a (b::r)) (K1 (a++b::r) [] (by simpa using hO.nd))
  have hnd1:(Dv y lanes (a++b::r) g b).Nodup:=by
    unfold Dv
    rw [(Ds _ _).nodup_iff]
    exact List.Pairwise.filter _ (CF _)
  have hnd2:(Hz lanes gone b (a++b::r)).Nodup:=by
    unfold Hz
    rw [F3 hba]
    exact List.Pairwise.filter _ hna
  exact Mc (fun c hc d hd h=>Ng ((hO.mem c).2 (EQ.1 hc).1) ((hO.mem d).2 (EQ.1 hd).1) h) (FZ _ _) hsorted ((List.perm_ext_iff_of_nodup hnd1 hnd2).2 key)
theorem G9 {y:Ag} {lanes order:List Int} (hO:Hy y order) (hl:lanes.length=y.buses.length) (hy:y.buses.length≤8) (ts:List Int) (hts:∀ b∈ts,b∈Ai y.buses.length) (htl:ts.length≤8):∀ (n i:Nat)(done:List (List Int))(gone:List Int)(g:Int→Bool),600≤n+i→i≤ts.length→done.length=i→(∀ x,g x=gone.contains x)→gone.length≤9*i →
    ∃ u,C5 n lanes order ts (done++List.replicate (ts.length-i) []) gone (i:Int)=some (done++B5 y lanes order g (ts.drop i),u)
  | 0,i,done,gone,g,h,hi,_,_,_=>by omega
  | n+1,i,done,gone,g,h,hi,hd,hg,hgl=>by
    rw [C5,Bi]
    by_cases hx:i<ts.length
    · simp only [hx,decide_true,cond_true,CA _ _ hx,Option.bind_some]
      have hbm:=hts ts[i] (List.getElem_mem hx)
      have hbr:=Aw.1 hbm
      have h1:=D2 lanes order (by omega) (by rw [hO.len]; omega) (fun c hc=>by have:=Aw.1 ((hO.mem c).1 hc); omega) ts[i] (by omega) hO.nd i n 0 (done++List.replicate (ts.length-i) []) [] gone (by omega) (by omega)
        (by rw [List.getElem?_append_right (by omega),hd,Nat.sub_self,List.getElem?_replicate,if_pos (by omega)]) (by rw [hO.len]; simp; omega) (by rw [hO.len]; omega)
      rw [show((0:Nat):Int)=0 from rfl,List.drop_zero,List.nil_append] at h1
      have hsh:=R1 (lanes:=lanes) hO hg hbm
      rw [h1,Option.bind_some,← hsh]
      have hsl:(Dv y lanes order g ts[i]).length≤8:=by
        unfold Dv
        rw [D8]
        exact Nat.le_trans (S7 y lanes order g ts[i] _) hy
      rw [CS _ _ (by simp; omega),Option.bind_some,CW i (by omega),AR hx,B5]
      have e1:(done++List.replicate (ts.length-i) ([]:List Int)).set i (Dv y lanes order g ts[i])=(done++[Dv y lanes order g ts[i]])++List.replicate (ts.length-(i+1)) []:=by
        rw [List.set_append_right _ _ (by omega),hd,Nat.sub_self,show ts.length-i=(ts.length-(i+1))+1 by omega,List.replicate_succ]
        simp
      rw [e1]
      obtain⟨u,ih⟩:=G9 hO hl hy ts hts htl n (i+1) (done++[Dv y lanes order g ts[i]]) (gone++Dv y lanes order g ts[i]++[ts[i]]) (Nc y lanes order g ts[i]) (by omega) (by omega) (by simp [hd]) (fun x=>by
        unfold Nc
        rw [hg x,Bool.eq_iff_iff]
        by_cases hxe:x=ts[i]
        · simp [hxe]
        · simp [hxe,A5]) (by simp; omega)
      exact⟨u,by rw [ih,List.append_assoc]; rfl⟩
    · have:i=ts.length:=by omega
      subst this
      exact⟨gone,by simp [B5]⟩
theorem Nh (n:Nat) {y:Ag} {lanes order broken:List Int} (hO:Hy y order) (hl:lanes.length=y.buses.length) (hy:y.buses.length≤8) (hbr:broken.length≤20) (hn:600≤n) :
    Fu n y lanes order broken=some (B5 y lanes order (fun _=>false) (AP y (A5 broken))):=by
  unfold Fu
  have hlen:=Ga y (A5 broken)
  rw [Py n y broken (by omega) hbr (by omega),Option.bind_some,Vw _ _ (by omega),Option.bind_some]
  obtain⟨u,h1⟩:=G9 hO hl hy (AP y (A5 broken)) (fun b hb=>(BJ.1 hb).1) (by omega) n 0 [] [] (fun _=>false) (by omega) (by omega) rfl (fun x=>by simp) (by simp)
  rw [show((0:Nat):Int)=0 from rfl,List.drop_zero,List.nil_append,List.nil_append,Nat.sub_zero] at h1
  rw [h1]
  rfl
end Go.Proofs.YthcbemnflgjadaaGreat
namespace Go.Proofs.YthcbemnflgjadaaGreat
open Go Go.RowKit
theorem K2 (a:List Int) (ha:a.length≤1000):∀ (n i:Nat),a.length<n+i→i≤a.length→DA n a a (i:Int)=some (Ex.go ())
  | 0,i,h,hi=>by omega
  | n+1,i,h,hi=>by
    rw [DA,Bi]
    by_cases hx:i<a.length
    · simp only [hx,decide_true,cond_true,CA _ _ hx,Option.bind_some,bne_self_eq_false,cond_false]
      rw [CW i (by omega)]
      exact K2 a ha n (i+1) (by omega) (by omega)
    · have:i=a.length:=by omega
      subst this
      simp
theorem S8 (n:Nat) (a:List Int) (ha:a.length≤1000) (hn:a.length<n):Gj n a a=some true:=by
  unfold Gj
  have e1:=K2 a ha n 0 (by omega) (by omega)
  rw [show((0:Nat):Int)=0 from rfl] at e1
  rw [bne_self_eq_false,cond_false,e1]
  rfl
theorem JB (y:Ag) (lanes order:List Int):∀ (ts:List Int)(g:Int→Bool),(B5 y lanes order g ts).flatten.Nodup∧∀ c∈(B5 y lanes order g ts).flatten,g c=false∧c∈Ai y.buses.length
  | [],g=>by simp [B5]
  | b::r,g=>by
    obtain⟨h1,h2⟩:=JB y lanes order r (Nc y lanes order g b)
    rw [B5,List.flatten_cons]
    have hg:∀ c∈(B5 y lanes order (Nc y lanes order g b) r).flatten,c ∉ Dv y lanes order g b∧g c=false∧c∈Ai y.buses.length:=fun c hc=>by
      obtain⟨q1,q2⟩:=h2 c hc
      unfold Nc at q1
      split at q1
      · cases q1
      · simp only [Bool.or_eq_false_iff] at q1
        exact⟨by simpa [A5] using q1.2,q1.1,q2⟩
    refine⟨?_,fun c hc=>?_⟩
    · rw [List.nodup_append]
      refine⟨?_,h1,fun c hc d hd=>?_⟩
      · unfold Dv
        rw [(Ds _ _).nodup_iff]
        exact List.Pairwise.filter _ (CF _)
      · rintro rfl
        exact(hg c hd).1 hc
    · rcases List.mem_append.1 hc with hc | hc
      · have:=EQ.1 hc
        exact⟨this.2.1,this.1⟩
      · exact(hg c hc).2
def Jt (y:Ag) (lanes order broken:List Int):List (List Int):=B5 y lanes order (fun _=>false) (AP y (A5 broken))
def BY (y:Ag) (lanes order broken:List Int):List Int:=(Ai y.buses.length).filter (A5 (Jt y lanes order broken).flatten)
theorem Ts {y:Ag} {m:List Int} (hn:m.Nodup) (hm:∀ c∈m,c∈Ai y.buses.length):m.length≤y.buses.length:=by
  rcases Nat.lt_or_ge y.buses.length m.length with h | h
  · exfalso
    have h2:=R0 (m.take y.buses.length) (Ai y.buses.length) (List.Pairwise.sublist (List.take_sublist _ _) hn) (fun x hx=>hm x (List.mem_of_mem_take hx)) (by rw [AU,List.length_take]; omega)
    have h3:=hm _ (List.getElem_mem h)
    have h4:=h2 _ h3
    have h5:(m.take y.buses.length++m.drop y.buses.length).Nodup:=by rw [List.take_append_drop]; exact hn
    rw [List.nodup_append] at h5
    exact h5.2.2 _ h4 m[y.buses.length] (by rw [AR h]; exact List.mem_cons_self) rfl
  · exact h
theorem GU (m:List (List Int)) (hm:m.length≤1000) (hs:m.flatten.length≤1000000):∀ (n i:Nat),m.length<n+i→i≤m.length→CO n m (m.take i).flatten (i:Int)=some m.flatten
  | 0,i,h,hi=>by omega
  | n+1,i,h,hi=>by
    rw [CO,Bi]
    by_cases hx:i<m.length
    · have e1:(m.take (i+1)).flatten=(m.take i).flatten++m[i]:=by
        rw [List.take_succ_eq_append_getElem hx,List.flatten_append]
        simp
      have hle:(m.take (i+1)).flatten.length≤m.flatten.length:=by
        have:=List.take_append_drop (i+1) m
        have h2:=congrArg List.flatten this
        rw [List.flatten_append] at h2
        rw [← h2,List.length_append]
        omega
      simp only [hx,decide_true,cond_true,CA _ _ hx,Option.bind_some]
      rw [CS _ _ (by rw [e1,List.length_append] at hle; omega),Option.bind_some,CW i (by omega),← e1]
      exact GU m hm hs n (i+1) (by omega) (by omega)
    · have:i=m.length:=by omega
      subst this
      simp
theorem GV (y:Ag) (m:List Int) (hb:y.buses.length≤100) (hm:m.length≤100):∀ (n i:Nat),300≤n+i→i≤y.buses.length→Cx n y m ((Ai i).filter (A5 m)) (i:Int)=some (m,(Ai y.buses.length).filter (A5 m))
  | 0,i,h,hi=>by omega
  | n+1,i,h,hi=>by
    rw [Cx,Bi]
    by_cases hx:i<y.buses.length
    · simp only [hx,decide_true,cond_true,MX n m _ (by omega) (by omega),Option.bind_some]
      have ih:=GV y m hb hm n (i+1) (by omega) (by omega)
      rw [Ct,List.filter_append] at ih
      rw [CW i (by omega),show m.contains (i:Int)=A5 m (i:Int) from rfl]
      have hlen:=List.length_filter_le (A5 m) (Ai i)
      rw [AU] at hlen
      cases hq:A5 m (i:Int) with
      | true =>
        simp only [cond_true]
        rw [CS _ _ (by simp; omega),Option.bind_some,← ih]
        simp [hq]
      | false =>
        simp only [cond_false]
        rw [← ih]
        simp [hq]
    · have:i=y.buses.length:=by omega
      subst this
      simp
theorem R2 {y:Ag} {lanes order broken:List Int} (ha:FM y lanes order broken=0):A6 y=0∧B0 y lanes=true∧lanes.length=y.buses.length∧Hy y order∧E3 y broken=true∧Er y order=true:=by
  have hf:A6 y=0:=by
    unfold FM at ha
    split at ha
    · assumption
    · exact ha
  have hok:Ky y lanes order broken=true:=by
    unfold FM at ha
    rw [if_pos hf] at ha
    split at ha
    · assumption
    · omega
  unfold Ky at hok
  simp only [Bool.and_eq_true] at hok
  exact⟨hf,hok.1,by have:=hok.1; unfold B0 at this; simp at this; exact this.1,ER hok.2.1,hok.2.2,hok.2.1⟩
theorem JC (n:Nat) {y:Ag} {lanes order broken:List Int} (ha:FM y lanes order broken=0) (hbr:broken.length≤20) (hn:600≤n):EX n y lanes order broken=some (BY y lanes order broken):=by
  obtain⟨hf,hl,hll,hO,_,_⟩:=R2 ha
  obtain⟨v1,v0,v2,v3,v4,v5,v6⟩:=BI hf
  unfold EX
  rw [Nh n hO hll v2 hbr hn,Option.bind_some]
  obtain⟨s1,s2⟩:=JB y lanes order (AP y (A5 broken)) fun _=>false
  have hfl:=Ts s1 (fun c hc=>(s2 c hc).2)
  have htl:=Ga y (A5 broken)
  have e1:=GU (B5 y lanes order (fun _=>false) (AP y (A5 broken))) (by rw [Hx]; omega) (by omega) n 0 (by rw [Hx]; omega) (by omega)
  have e2:=GV y (B5 y lanes order (fun _=>false) (AP y (A5 broken))).flatten (by omega) (by omega) n 0 (by omega) (by omega)
  rw [show((0:Nat):Int)=0 from rfl,List.take_zero,List.flatten_nil] at e1
  rw [show((0:Nat):Int)=0 from rfl,show(Ai 0).filter (A5 (B5 y lanes order (fun _=>false) (AP y (A5 broken))).flatten)=[] from rfl] at e2
  rw [e1,Option.bind_some,e2]
  rfl
theorem Vx (l:List Int) (h:l.length≤15):decide ((l.length:Int)>15)=false:=decide_eq_false (by omega)
theorem Vk (l:List Int) (h : ¬ l.length≤15):decide ((l.length:Int)>15)=true:=decide_eq_true (by omega)
end Go.Proofs.YthcbemnflgjadaaGreat
namespace Go.Proofs.YthcbemnflgjadaaGreat
open Go Go.RowKit
def wd (words:List (IK .u16)) (k:Int):Int:=if words.length=0 then 0 else(words.getD (Int.tmod k (words.length:Int)).toNat ⟨0⟩).n
def Vl (y:Ag) (words:List (IK .u16)) (b:Int):Int :=
  if Int.tmod (wd words b) 3=0 then(Ao y b).lo else if Int.tmod (wd words b) 3=1 then(Ao y b).hi
  else(Ao y b).lo+Int.tmod (Int.tdiv (wd words b) 3) ((Ao y b).hi-(Ao y b).lo+1)
def keyOf (y:Ag) (words:List (IK .u16)) (b:Int):Int:=2*Vl y words b+Int.tmod (wd words (2*b+1)) 2
theorem Qe (y:Ag):∀ (l pre:List Int),(pre++l).Nodup→(∀ b∈l,b∈Ai y.buses.length)→(pre++l).Pairwise (fun a b=>(Ao y a).lo≤(Ao y b).hi)→HW y pre l=true
  | [],pre,_,_,_=>rfl
  | b::r,pre,hn,hm,hp=>by
    unfold HW PX
    have h1:DI b 0 ((y.buses.length:Int)-1)=true:=B4.2 (hm b (by simp))
    have hn2:=hn
    rw [List.nodup_append] at hn2
    have h2:pre.contains b=false:=by
      have:b ∉ pre:=fun h=>hn2.2.2 b h b (by simp) rfl
      simpa using this
    have hp2:=hp
    rw [List.pairwise_append] at hp2
    have h3:(pre.any fun k=>decide ((Ao y b).hi<(Ao y k).lo))=false:=by
      rw [List.any_eq_false]
      intro k hk
      have:=hp2.2.2 k hk b (by simp)
      simp
      omega
    rw [h1,h2,h3]
    simp only [Bool.or_self,Bool.not_false,Bool.and_self,Bool.true_and]
    exact Qe y r (pre++[b]) (by simpa using hn) (fun c hc=>hm c (by simp [hc])) (by simpa using hp)
theorem Qf (y:Ag):∀ (l:List Int)(last:Int),(last::l).Pairwise (· < ·)→(∀ b∈l,b∈Ai y.buses.length)→JA y last l=true
  | [],_,_,_=>rfl
  | b::r,last,hp,hm=>by
    unfold JA
    rw [List.pairwise_cons] at hp
    rw [B4.2 (hm b (by simp)),decide_eq_true (hp.1 b (by simp)),Bool.true_and,Bool.true_and]
    exact Qf y r b hp.2 fun c hc=>hm c (by simp [hc])
theorem GA (room:List Int):∀ (l pre:List Int)(x:Int),BK room pre (l++[x])=(BK room pre l && (DI x 0 ((room.length:Int)-1) && decide (((pre++l).count x:Int)<Bt room x)))
  | [],pre,x=>by simp [BK]
  | b::r,pre,x=>by
    rw [List.cons_append,BK,BK,GA room r (pre++[b]) x]
    simp [Bool.and_assoc]
end Go.Proofs.YthcbemnflgjadaaGreat
namespace Go.Proofs.YthcbemnflgjadaaGreat
open Go Go.RowKit
def Kd (lanes order:List Int) (c:Int):List Int→Bool
  | []=>false
  | b::r=>S5 lanes order c b || (c != b && Kd lanes order c r)
theorem K3 (y:Ag) (lanes order:List Int) (c:Int):∀ (ts:List Int)(g:Int→Bool),c∈(B5 y lanes order g ts).flatten↔c∈Ai y.buses.length∧g c=false∧Kd lanes order c ts=true
  | [],g=>by simp [B5,Kd]
  | b::r,g=>by
    rw [B5,List.flatten_cons,List.mem_append,EQ,K3 y lanes order c r,Kd]
    unfold Nc
    simp only [Bool.or_eq_true,Bool.and_eq_true,bne_iff_ne]
    constructor
    · rintro(⟨h1,h2,h3⟩ | ⟨h1,h2,h3⟩)
      · exact⟨h1,h2,.inl h3⟩
      · split at h2
        · cases h2
        · rename_i hne
          simp only [Bool.or_eq_false_iff] at h2
          exact⟨h1,h2.1,.inr ⟨hne,h3⟩⟩
    · rintro⟨h1,h2,h3 | ⟨h3,h4⟩⟩
      · exact .inl ⟨h1,h2,h3⟩
      · cases hq:S5 lanes order c b with
        | true=>exact .inl ⟨h1,h2,rfl⟩
        | false =>
          refine .inr ⟨h1,?_,h4⟩
          rw [if_neg h3,h2,Bool.false_or]
          cases hs:A5 (Dv y lanes order g b) c with
          | false=>rfl
          | true =>
            have:c∈Dv y lanes order g b:=by simpa [A5] using hs
            rw [(EQ.1 this).2.2] at hq
            cases hq
theorem R3 (lanes order:List Int) (c:Int):S5 lanes order c c=false:=by simp [S5]
theorem Ni (key:Int→Int) (lanes order:List Int) (c:Int):∀ ts:List Int,ts.Pairwise (fun a b=>key a<key b)→(Kd lanes order c ts=true↔∃ b∈ts,S5 lanes order c b=true∧(c∈ts→key b<key c))
  | [],_=>by simp [Kd]
  | b::r,hp=>by
    rw [List.pairwise_cons] at hp
    have ih:=Ni key lanes order c r hp.2
    rw [Kd]
    simp only [Bool.or_eq_true,Bool.and_eq_true,bne_iff_ne,ih]
    constructor
    · rintro(h | ⟨hne,d,hd,h1,h2⟩)
      · refine⟨b,by simp,h,fun hc=>?_⟩
        rcases List.mem_cons.1 hc with rfl | hc
        · rw [R3] at h; cases h
        · exact hp.1 c hc
      · refine⟨d,by simp [hd],h1,fun hc=>?_⟩
        rcases List.mem_cons.1 hc with rfl | hc
        · exact absurd rfl hne
        · exact h2 hc
    · rintro⟨d,hd,h1,h2⟩
      rcases List.mem_cons.1 hd with rfl | hd
      · exact .inl h1
      · by_cases hcb:c=b
        · exfalso
          have h3:=h2 (by simp [hcb])
          have h4:=hp.1 d hd
          rw [hcb] at h3
          omega
        · exact .inr ⟨hcb,d,hd,h1,fun hc=>h2 (by simp [hc])⟩
theorem O8:∀ (l s:List Int),FY s l=false→(∀ t∈l,t ∉ s)∧l.Nodup
  | [],s,_=>by simp
  | t::r,s,h=>by
    unfold FY at h
    simp only [Bool.or_eq_false_iff] at h
    obtain⟨h1,h2⟩:=h
    obtain⟨q1,q2⟩:=O8 r (s++[t]) h2
    have h1':t ∉ s:=by simpa using h1
    refine⟨fun u hu=>?_,?_⟩
    · rcases List.mem_cons.1 hu with rfl | hu
      · exact h1'
      · exact fun hs=>q1 u hu (by simp [hs])
    · rw [List.nodup_cons]
      exact⟨fun hm=>q1 t hm (by simp),q2⟩
theorem Qg {y:Ag} (hd:FY [] (y.buses.map (·.turn))=false) {a b:Int} (ha:a∈Ai y.buses.length) (hb:b∈Ai y.buses.length) (h:Bn y a=Bn y b):a=b:=by
  have hn:=(O8 _ _ hd).2
  rw [Aw] at ha hb
  have hal:a.toNat<(y.buses.map (·.turn)).length:=by rw [List.length_map]; omega
  have hbl:b.toNat<(y.buses.map (·.turn)).length:=by rw [List.length_map]; omega
  have h1:(y.buses.map (·.turn))[a.toNat]=(y.buses.map (·.turn))[b.toNat]:=by
    rw [List.getElem_map,List.getElem_map]
    unfold Bn Ao at h
    rw [List.length_map] at hal hbl
    simpa [List.getD_eq_getElem?_getD,List.getElem?_eq_getElem hal,List.getElem?_eq_getElem hbl] using h
  have:=(List.getElem_inj hn).1 h1
  omega
theorem Fg {y:Ag} (hd:FY [] (y.buses.map (·.turn))=false) (f:Int→Bool):(AP y f).Pairwise fun a b=>Bn y a<Bn y b:=by
  have h1:=FZ (Bn y) (L0 y f)
  have h2:=Hw y f
  have h3:(AP y f).Pairwise fun a b=>Bn y a≤Bn y b∧a≠b:=h1.and h2
  refine List.Pairwise.imp_of_mem (fun {a b} ha hb h=>?_) h3
  rcases Int.lt_or_eq_of_le h.1 with h4 | h4
  · exact h4
  · exact absurd (Qg hd (BJ.1 ha).1 (BJ.1 hb).1 h4) h.2
def UT (y:Ag) (lanes order broken:List Int) (c b:Int):Prop:=b∈Ai y.buses.length∧A5 broken b=false∧S5 lanes order c b=true∧(A5 broken c=false→Bn y b<Bn y c)
theorem Nj {y:Ag} (hd:FY [] (y.buses.map (·.turn))=false) (lanes order broken:List Int) (c:Int):c∈BY y lanes order broken↔c∈Ai y.buses.length∧∃ b,UT y lanes order broken c b:=by
  unfold BY Jt
  rw [List.mem_filter]
  have h1:A5 (B5 y lanes order (fun _=>false) (AP y (A5 broken))).flatten c=true↔c∈(B5 y lanes order (fun _=>false) (AP y (A5 broken))).flatten:=by simp [A5]
  rw [h1,K3,Ni (Bn y) lanes order c _ (Fg hd _)]
  constructor
  · rintro⟨hc,_,_,b,hb,h2,h3⟩
    have hb':=BJ.1 hb
    exact⟨hc,b,hb'.1,hb'.2,h2,fun hq=>h3 (BJ.2 ⟨hc,hq⟩)⟩
  · rintro⟨hc,b,hb,h2,h3,h4⟩
    exact⟨hc,hc,rfl,b,BJ.2 ⟨hb,h2⟩,h3,fun hq=>h4 (BJ.1 hq).2⟩
theorem ES {y:Ag} {l:List Int} (h:E3 y l=true):l.Pairwise (· < ·)∧(∀ b∈l,b∈Ai y.buses.length)∧(l.length:Int)≤y.broken:=by
  unfold E3 at h
  simp only [Bool.and_eq_true,decide_eq_true_eq] at h
  have key:∀ (l:List Int)(last:Int),JA y last l=true→(last::l).Pairwise (· < ·)∧∀ b∈l,b∈Ai y.buses.length:=by
    intro l
    induction l with
    | nil=>intro last _; simp
    | cons b r ih =>
      intro last hq
      unfold JA at hq
      simp only [Bool.and_eq_true,decide_eq_true_eq] at hq
      obtain⟨q1,q2⟩:=ih b hq.2.2
      refine⟨?_,fun c hc=>?_⟩
      · rw [List.pairwise_cons]
        refine⟨fun c hc=>?_,q1⟩
        rcases List.mem_cons.1 hc with rfl | hc
        · exact hq.2.1
        · rw [List.pairwise_cons] at q1
          have:=q1.1 c hc
          omega
      · rcases List.mem_cons.1 hc with rfl | hc
        · exact B4.1 hq.1
        · exact q2 c hc
  obtain⟨q1,q2⟩:=key l (-1) h.1
  rw [List.pairwise_cons] at q1
  exact⟨q1.2,q2,h.2⟩
theorem Iw {y:Ag} {l:List Int} (h1:l.Pairwise (· < ·)) (h2:∀ b∈l,b∈Ai y.buses.length) (h3:(l.length:Int)≤y.broken):E3 y l=true:=by
  unfold E3
  rw [decide_eq_true h3,Bool.and_true]
  refine Qf y l (-1) ?_ h2
  rw [List.pairwise_cons]
  exact⟨fun b hb=>by have:=Aw.1 (h2 b hb); omega,h1⟩
theorem Nk (y:Ag):∀ (l pre:List Int),HW y pre l=true→l.Pairwise (fun a b=>(Ao y a).lo≤(Ao y b).hi)∧∀ a∈pre,∀ b∈l,(Ao y a).lo≤(Ao y b).hi
  | [],pre,_=>by simp
  | b::r,pre,h=>by
    unfold HW PX at h
    simp only [Bool.and_eq_true,Bool.not_eq_true',Bool.or_eq_false_iff] at h
    obtain⟨⟨h1,h2,h3⟩,h4⟩:=h
    obtain⟨q1,q2⟩:=Nk y r (pre++[b]) h4
    have h5:∀ a∈pre,(Ao y a).lo≤(Ao y b).hi:=fun a ha=>by
      have:=List.any_eq_false.1 h3 a ha
      simp at this
      exact this
    refine⟨?_,fun a ha c hc=>?_⟩
    · rw [List.pairwise_cons]
      exact⟨fun c hc=>q2 b (by simp) c hc,q1⟩
    · rcases List.mem_cons.1 hc with rfl | hc
      · exact h5 a ha
      · exact q2 a (by simp [ha]) c hc
end Go.Proofs.YthcbemnflgjadaaGreat
namespace Go.Proofs.YthcbemnflgjadaaGreat
open Go Go.RowKit
theorem Gb {l:List Int} {x:Int}:A5 l x=true↔x∈l:=by simp [A5]
end Go.Proofs.YthcbemnflgjadaaGreat
namespace Go.Proofs.YthcbemnflgjadaaGreat
open Go Go.RowKit
def inl (lanes:List Int) (l b:Int):Bool:=A8 lanes b == l
section
variable {y:Ag} {lanes:List Int} {l:Int}
end
theorem O9 (room:List Int):∀ (l pre:List Int),BK room pre l=true→∀ b∈l,DI b 0 ((room.length:Int)-1)=true
  | [],_,_,b,h=>by simp at h
  | a::r,pre,h,b,hb=>by
    rw [BK] at h
    simp only [Bool.and_eq_true] at h
    rcases List.mem_cons.1 hb with rfl | hb
    · exact h.1
    · exact O9 room r _ h.2.2 b hb
end Go.Proofs.YthcbemnflgjadaaGreat
namespace Go.Proofs.YthcbemnflgjadaaGreat
open Go Go.RowKit
def Tt (x:An) (b t:Int):An:=(An.setI x b t).getD x
theorem P1 (x:An) {b:Int} (h0:0≤b) (h8:b<8) (t:Int):An.setI x b t=some (Tt x b t):=by
  rcases x with⟨x0,x1,x2,x3,x4,x5,x6,x7⟩
  rcases MW h0 h8 with h | h | h | h | h | h | h | h <;> subst h <;> rfl
def CX (b t last:Int) (f:AJ):AJ:=⟨if t≤last then f.many+1 else f.many,Tt f.tm b t⟩
def H0 (y:Ag) (down:Int):List Int→Int→Int→AJ
  | [],_,_=>⟨0,⟨0,0,0,0,0,0,0,0⟩⟩
  | b::r,i,last =>
    bif decide ((CX b (Ao y b).hi last (H0 y down r (i+1) (if i<down then max last (Ao y b).hi else last))).many>(CX b (Ao y b).lo last (H0 y down r (i+1) (if i<down then max last (Ao y b).lo else last))).many)
    then CX b (Ao y b).hi last (H0 y down r (i+1) (if i<down then max last (Ao y b).hi else last))
    else CX b (Ao y b).lo last (H0 y down r (i+1) (if i<down then max last (Ao y b).lo else last))
theorem Mf {b t last:Int} {f:AJ} {k:Nat} (h:0≤f.many∧f.many≤k):0≤(CX b t last f).many∧(CX b t last f).many≤((k+1:Nat):Int):=by
  unfold CX
  simp only
  split <;> omega
theorem ET (y:Ag) (down:Int):∀ (l:List Int)(i last:Int),0≤(H0 y down l i last).many∧(H0 y down l i last).many≤l.length
  | [],_,_=>by simp [H0]
  | b::r,i,last=>by
    have h1:=Mf (b:=b) (t:=(Ao y b).hi) (last:=last) (ET y down r (i+1) (if i<down then max last (Ao y b).hi else last))
    have h2:=Mf (b:=b) (t:=(Ao y b).lo) (last:=last) (ET y down r (i+1) (if i<down then max last (Ao y b).lo else last))
    unfold H0
    rw [List.length_cons]
    cases decide ((CX b (Ao y b).hi last (H0 y down r (i+1) (if i<down then max last (Ao y b).hi else last))).many>(CX b (Ao y b).lo last (H0 y down r (i+1) (if i<down then max last (Ao y b).lo else last))).many) with
    | true=>exact h1
    | false=>exact h2
def Qh (y:Ag) (c:Av) (known:List (Bq×AJ)):Prop:=∀ (s:Bq)(f:AJ),De known s=some f→f=H0 y c.down (c.buses.drop s.behind.toNat) s.behind s.last
theorem Qh.nil (y:Ag) (c:Av):Qh y c []:=fun s f h=>by simp [De] at h
theorem Qh.put {y:Ag} {c:Av} {known:List (Bq×AJ)} (h:Qh y c known) {s:Bq} {f:AJ} (hf:f=H0 y c.down (c.buses.drop s.behind.toNat) s.behind s.last):Qh y c (G7 known s f):=fun s' f' h'=>by
  rw [GT] at h'
  split at h'
  · rename_i he
    subst he
    cases h'
    exact hf
  · exact h s' f' h'
theorem Ke {y:Ag} {c:Av} (hb:y.buses.length≤8) (hc:∀ b∈c.buses,b∈Ai y.buses.length) (hl:c.buses.length≤1000):∀ (r n i:Nat)(last:Int)(known:List (Bq×AJ)),3*r+5≤n→i+r=c.buses.length→Qh y c known →
    ∃ known',lane_Yard_worst_1 n ⟨(i:Int),last⟩ c known y=some (H0 y c.down (c.buses.drop i) (i:Int) last,known')∧Qh y c known'
  | 0,n,i,last,known,hn,hi,hm=>by
    obtain⟨n,rfl⟩:∃ m,n=m+1:=⟨n-1,by omega⟩
    have:i=c.buses.length:=by omega
    subst this
    refine⟨known,?_,hm⟩
    rw [lane_Yard_worst_1]
    simp [H0]
  | r+1,n,i,last,known,hn,hi,hm=>by
    obtain⟨n,rfl⟩:∃ m,n=m+4:=⟨n-4,by omega⟩
    have hil:i<c.buses.length:=by omega
    rw [lane_Yard_worst_1]
    have e0:((i:Int) == ((c.buses.length:Nat):Int))=false:=by
      cases hq:((i:Int) == ((c.buses.length:Nat):Int)) with
      | false=>rfl
      | true=>rw [beq_iff_eq] at hq; omega
    dsimp only
    rw [e0,cond_false]
    simp only [Option.bind_some]
    unfold Ea
    cases hk:De known ⟨(i:Int),last⟩ with
    | some f =>
      have:=hm _ _ hk
      simp only [Int.toNat_natCast] at this
      exact⟨known,by simp [this],hm⟩
    | none =>
      have hbm:=hc _ (List.getElem_mem hil)
      have hbr:=Aw.1 hbm
      have h8:c.buses[i]<8:=by omega
      simp only [cond_false,CA _ _ hil,Option.bind_some,Jv]
      obtain⟨k1,a1,m1⟩:=Ke hb hc hl r (n+2) (i+1) (if (i:Int)<c.down then max last (Ao y c.buses[i]).lo else last) known (by omega) (by omega) hm
      obtain⟨k2,a2,m2⟩:=Ke hb hc hl r (n+1) (i+1) (if (i:Int)<c.down then max last (Ao y c.buses[i]).hi else last) k1 (by omega) (by omega) m1
      obtain⟨n,rfl⟩:∃ m,n=m+1:=⟨n-1,by omega⟩
      have w0:IntKind.i64.wrap ((i:Int)+1)=((i+1:Nat):Int):=CW i (by omega)
      have r1:=ET y c.down (c.buses.drop (i+1)) ((i:Int)+1) (if (i:Int)<c.down then max last (Ao y c.buses[i]).lo else last)
      have r2:=ET y c.down (c.buses.drop (i+1)) ((i:Int)+1) (if (i:Int)<c.down then max last (Ao y c.buses[i]).hi else last)
      rw [List.length_drop] at r1 r2
      rw [show((i+1:Nat):Int)=(i:Int)+1 by omega] at a1 a2 w0
      have wy1:AD (n+4) ⟨(i:Int),last⟩ c y c.buses[i] [BL.mk fun y0=>Bl (n+4) y0,BL.mk fun y0=>Bb (n+4) y0] 0 ⟨0,0,0,0,0,0,0,0⟩ 0 known =
          some ((H0 y c.down (c.buses.drop i) (i:Int) last).tm,(H0 y c.down (c.buses.drop i) (i:Int) last).many,k2):=by
        have last1:((bif decide ((i:Int)<c.down) then((Cv (n+3) ([last,(Ao y c.buses[i]).lo]:List Int)).bind fun x67=>some x67) else some last):Option Int)=some (if (i:Int)<c.down then max last (Ao y c.buses[i]).lo else last):=by
          by_cases hd:(i:Int)<c.down
          · rw [decide_eq_true hd,cond_true,Pw (n+1),if_pos hd]; rfl
          · rw [decide_eq_false hd,cond_false,if_neg hd]
        have last2:((bif decide ((i:Int)<c.down) then((Cv (n+2) ([last,(Ao y c.buses[i]).hi]:List Int)).bind fun x67=>some x67) else some last):Option Int)=some (if (i:Int)<c.down then max last (Ao y c.buses[i]).hi else last):=by
          by_cases hd:(i:Int)<c.down
          · rw [decide_eq_true hd,cond_true,Pw n,if_pos hd]; rfl
          · rw [decide_eq_false hd,cond_false,if_neg hd]
        have many1:∀ (t:Int)(f:AJ),0≤f.many∧f.many≤1000→((bif decide (t≤last) then some (IntKind.i64.wrap (f.many+1)) else some f.many):Option Int)=some (CX c.buses[i] t last f).many:=fun t f hf=>by
          unfold CX
          by_cases hd:t≤last
          · rw [decide_eq_true hd,cond_true,MK (by omega) (by omega)]; simp [hd]
          · rw [decide_eq_false hd,cond_false]; simp [hd]
        have z1:IntKind.i64.wrap (0+1)=1:=by decide
        have z2:IntKind.i64.wrap (1+1)=2:=by decide
        rw [AD]
        rw [show decide ((0:Int)<((([BL.mk fun y0=>Bl (n+4) y0,BL.mk fun y0=>Bb (n+4) y0]:List BL).length:Nat):Int))=true from rfl,cond_true]
        rw [show B3 [BL.mk fun y0=>Bl (n+4) y0,BL.mk fun y0=>Bb (n+4) y0] (0:Int)=some (BL.mk fun y0=>Bl (n+4) y0) from rfl]
        simp only [Option.bind_some,FL y (B4.2 hbm),Bl,last1,w0,a1]
        rw [many1 _ _ ⟨r1.1,by omega⟩]
        simp only [Option.bind_some,beq_self_eq_true,cond_true,MV hbr.1 h8,P1 _ hbr.1 h8,z1]
        rw [AD]
        rw [show decide ((1:Int)<((([BL.mk fun y0=>some y0.lo,BL.mk fun y0=>Bb (n+4) y0]:List BL).length:Nat):Int))=true from rfl,cond_true]
        rw [show B3 [BL.mk fun y0=>some y0.lo,BL.mk fun y0=>Bb (n+4) y0] (1:Int)=some (BL.mk fun y0=>Bb (n+4) y0) from rfl]
        simp only [Option.bind_some,FL y (B4.2 hbm),Bb,last2,w0,a2]
        rw [many1 _ _ ⟨r2.1,by omega⟩]
        rw [show((1:Int) == 0)=false from rfl]
        simp only [Option.bind_some,cond_false,MV hbr.1 h8,P1 _ hbr.1 h8,z2]
        rw [AD,AD]
        rw [show ∀ (q:List BL),q=[BL.mk fun y0=>some y0.lo,BL.mk fun y0=>some y0.hi]→decide ((2:Int)<((q.length:Nat):Int))=false from fun q hq=>by rw [hq]; rfl] <;> try rfl
        simp only [cond_false]
        conv=>rhs; rw [AR hil,H0]
        cases decide ((CX c.buses[i] (Ao y c.buses[i]).hi last (H0 y c.down (c.buses.drop (i+1)) ((i:Int)+1) (if (i:Int)<c.down then max last (Ao y c.buses[i]).hi else last))).many>(CX c.buses[i] (Ao y c.buses[i]).lo last (H0 y c.down (c.buses.drop (i+1)) ((i:Int)+1) (if (i:Int)<c.down then max last (Ao y c.buses[i]).lo else last))).many) <;> rfl
      refine⟨G7 k2 ⟨(i:Int),last⟩ (H0 y c.down (c.buses.drop i) (i:Int) last),?_,m2.put (by simp only [Int.toNat_natCast])⟩
      rw [wy1]
      rfl
theorem Qi (n:Nat) {y:Ag} {c:Av} (hb:y.buses.length≤8) (hc:∀ b∈c.buses,b∈Ai y.buses.length) (hl:c.buses.length≤1000) (hn:3*c.buses.length+5≤n):BP n y c=some (H0 y c.down c.buses 0 (-1)):=by
  unfold BP
  obtain⟨k,h1,_⟩:=Ke hb hc hl c.buses.length n 0 (-1) [] hn (by omega) (Qh.nil y c)
  rw [show((0:Nat):Int)=0 from rfl,List.drop_zero] at h1
  rw [h1]
  rfl
end Go.Proofs.YthcbemnflgjadaaGreat
namespace Go.Proofs.YthcbemnflgjadaaGreat
open Go Go.RowKit
section
variable {α:Type}
def Eh (m:Nat) (g:Int→α):List α:=(Ai m).map g
theorem GW (m:Nat) (g:Int→α):(Eh m g).length=m:=by simp [Eh,AU]
theorem Nl {m:Nat} {g:Int→α} {k:Nat} (h:k<m):(Eh m g)[k]? = some (g (k:Int)):=by
  unfold Eh Ai
  rw [List.getElem?_map,List.getElem?_map,List.getElem?_range h]
  rfl
theorem Qj {m:Nat} {g:Int→α} {b:Int} (h:DI b 0 ((m:Int)-1)=true):B3 (Eh m g) b=some (g b):=by
  rw [Bs] at h
  obtain⟨k,rfl⟩:=Int.eq_ofNat_of_zero_le h.1
  rw [Rw,Nl (by omega)]
theorem Qk {m:Nat} {g:Int→α} {l:List α} (hl:l.length=m) (h:∀ k,k<m→l[k]? = some (g (k:Int))):l=Eh m g:=by
  apply List.ext_getElem?
  intro k
  rcases Nat.lt_or_ge k m with hk | hk
  · rw [h k hk,Nl hk]
  · rw [List.getElem?_eq_none (by omega),List.getElem?_eq_none (by rw [GW]; omega)]
theorem Ql {m:Nat} {g:Int→α} {b:Int} {v:α} (h:DI b 0 ((m:Int)-1)=true):upd (Eh m g) b v=some (Eh m fun x=>if x=b then v else g x):=by
  rw [Bs] at h
  obtain⟨k,rfl⟩:=Int.eq_ofNat_of_zero_le h.1
  rw [Uj _ _ _ (by rw [GW]; omega)]
  congr 1
  refine Qk (by rw [List.length_set,GW]) fun j hj=>?_
  by_cases hjk:j=k
  · subst hjk
    rw [List.getElem?_set_self (by rw [GW]; omega)]
    simp
  · rw [List.getElem?_set_ne (Ne.symm hjk),Nl hj,if_neg (by omega)]
theorem S9 (m:Nat) (x:α):List.replicate m x=Eh m fun _=>x:=Qk (by simp) fun k hk=>by
  rw [List.getElem?_replicate,if_pos hk]
theorem H2 {m:Nat} {f g:Int→α} (h:∀ x,f x=g x):Eh m f=Eh m g:=by rw [funext h]
end
def BZ (y:Ag) (lanes:List Int) (f:Int→Bool) (k:Int):Av :=
  ⟨(AP y f).filter (inl lanes k)++((Ai y.buses.length).filter f).filter (inl lanes k),(((AP y f).filter (inl lanes k)).length:Int)⟩
def BN (y:Ag) (lanes:List Int) (f:Int→Bool):List Av:=Eh y.room.length (BZ y lanes f)
def FF (lanes:List Int) (ts:List Int) (k:Int):Av:=⟨ts.filter (inl lanes k),((ts.filter (inl lanes k)).length:Int)⟩
theorem R4 (lanes ts:List Int) (b k:Int):FF lanes (ts++[b]) k=if k=A8 lanes b then⟨(FF lanes ts k).buses++[b],(FF lanes ts k).down+1⟩ else FF lanes ts k:=by
  unfold FF
  rw [List.filter_append]
  by_cases h:k=A8 lanes b
  · have:inl lanes k b=true:=by simp [inl,h]
    rw [if_pos h]
    simp [this]
  · have:inl lanes k b=false:=by
      unfold inl
      cases hq:(A8 lanes b == k) with
      | false=>rfl
      | true=>rw [beq_iff_eq] at hq; exact absurd hq.symm h
    rw [if_neg h]
    simp [this]
theorem K4 (y:Ag) (lanes:List Int) (hl:lanes.length=y.buses.length) (hin:∀ b∈Ai y.buses.length,DI (A8 lanes b) 0 ((y.room.length:Int)-1)=true)
    (step:List Av→Int→Option (List Av))
    (hstep:step=fun s x19=>((B3 lanes x19).bind fun x23=>((B3 s x23).bind fun x25=>((Ij x25.buses ([x19]:List Int)).bind fun x33=>((upd s x23 ({ x25 with buses:=x33 }:Av)).bind fun u_144 =>
      ((upd u_144 x23 ({ ({ x25 with buses:=x33 }:Av) with down:=IntKind.i64.wrap (x25.down+1) }:Av)).bind fun u_169=>some u_169)))))) :
    ∀ (ts done:List Int),(∀ b∈ts,b∈Ai y.buses.length)→done.length+ts.length≤1000→ts.foldlM step (Eh y.room.length (FF lanes done))=some (Eh y.room.length (FF lanes (done++ts)))
  | [],done,_,_=>by simp
  | b::r,done,h,hlen=>by
    have hb:=h b (by simp)
    have hbr:=Aw.1 hb
    have hbt:=hin b hb
    have hpl:(done.filter (inl lanes (A8 lanes b))).length≤done.length:=List.length_filter_le _ _
    have hs:step (Eh y.room.length (FF lanes done)) b=some (Eh y.room.length (FF lanes (done++[b]))):=by
      rw [hstep]
      simp only [K0 lanes hbr.1 (show b<lanes.length by omega),Option.bind_some,Qj hbt]
      rw [CS _ _ (by unfold FF; simp at hlen ⊢; omega)]
      simp only [Option.bind_some,Ql hbt]
      congr 1
      refine H2 fun k=>?_
      rw [R4]
      by_cases hk:k=A8 lanes b
      · rw [if_pos hk,if_pos hk,hk]
        congr 1
        unfold FF
        simp at hlen
        exact MK (by simp only; omega) (by simp only; omega)
      · rw [if_neg hk,if_neg hk,if_neg hk]
    rw [List.foldlM_cons,hs]
    show r.foldlM step (Eh y.room.length (FF lanes (done++[b])))=_
    rw [K4 y lanes hl hin step hstep r (done++[b]) (fun c hc=>h c (by simp [hc])) (by simp at hlen ⊢; omega),List.append_assoc]
    rfl
def GX (y:Ag) (lanes:List Int) (f:Int→Bool) (i:Nat) (k:Int):Av :=
  ⟨(AP y f).filter (inl lanes k)++((Ai i).filter f).filter (inl lanes k),(((AP y f).filter (inl lanes k)).length:Int)⟩
theorem JD (y:Ag) (lanes:List Int) (f:Int→Bool) (hy:y.buses.length≤8) (hl:lanes.length=y.buses.length) (hin:∀ b∈Ai y.buses.length,DI (A8 lanes b) 0 ((y.room.length:Int)-1)=true):∀ (n i:Nat),y.buses.length<n+i→i≤y.buses.length →
    Be n y lanes (A4 f) (Eh y.room.length (GX y lanes f i)) (i:Int)=some (BN y lanes f)
  | 0,i,h,hi=>by omega
  | n+1,i,h,hi=>by
    rw [Be,Bi]
    by_cases hx:i<y.buses.length
    · have h0:(0:Int)≤(i:Int):=by omega
      have h8:(i:Int)<8:=by omega
      have hm:(i:Int)∈Ai y.buses.length:=by rw [Aw]; omega
      have hbt:=hin _ hm
      have ih:=JD y lanes f hy hl hin n (i+1) (by omega) (by omega)
      simp only [hx,decide_true,cond_true,MV h0 h8,Kw _ h0 h8,Option.bind_some]
      rw [CW i (by omega)]
      cases hf:f (i:Int) with
      | false =>
        have e1:Eh y.room.length (GX y lanes f i)=Eh y.room.length (GX y lanes f (i+1)):=H2 fun k=>by
          unfold GX
          rw [Ct,List.filter_append]
          simp [hf]
        simp only [cond_false]
        rw [e1]
        exact ih
      | true =>
        have hl1:=List.length_filter_le (inl lanes (A8 lanes (i:Int))) (AP y f)
        have hl2:=List.length_filter_le (inl lanes (A8 lanes (i:Int))) ((Ai i).filter f)
        have hl3:=List.length_filter_le f (Ai i)
        rw [AU] at hl3
        have hl4:=Ga y f
        simp only [cond_true,K0 lanes h0 (show(i:Int)<lanes.length by omega),Option.bind_some,Qj hbt]
        rw [CS _ _ (by unfold GX; rw [List.length_append,List.length_singleton]; omega)]
        simp only [Option.bind_some,Ql hbt]
        have e1:(Eh y.room.length fun x=>if x=A8 lanes (i:Int) then({ GX y lanes f i (A8 lanes (i:Int)) with buses:=(GX y lanes f i (A8 lanes (i:Int))).buses++[(i:Int)] }:Av) else GX y lanes f i x)=Eh y.room.length (GX y lanes f (i+1)):=H2 fun k=>by
          by_cases hk:k=A8 lanes (i:Int)
          · have hq:inl lanes k (i:Int)=true:=by simp [inl,hk]
            rw [if_pos hk,← hk]
            unfold GX
            rw [Ct,List.filter_append,List.filter_append]
            simp [hf,hq]
          · have hq:inl lanes k (i:Int)=false:=by
              unfold inl
              cases hz:(A8 lanes (i:Int) == k) with
              | false=>rfl
              | true=>rw [beq_iff_eq] at hz; exact absurd hz.symm hk
            rw [if_neg hk]
            unfold GX
            rw [Ct,List.filter_append,List.filter_append]
            simp [hf,hq]
        rw [e1]
        exact ih
    · have:i=y.buses.length:=by omega
      subst this
      simp only [Nat.lt_irrefl,decide_false,cond_false]
      rfl
theorem Nm (n:Nat) (y:Ag) (lanes:List Int) (f:Int→Bool) (hm:y.room.length≤1000) (hy:y.buses.length≤8) (hv:y.buses.all D7=true) (hl:lanes.length=y.buses.length) (hin:∀ b∈Ai y.buses.length,DI (A8 lanes b) 0 ((y.room.length:Int)-1)=true) (hn:20≤n) :
    Cn n y lanes (A4 f)=some (BN y lanes f):=by
  unfold Cn
  have htl:=Ga y f
  rw [Vw _ _ (by omega),Option.bind_some,Tq n y f hy hv hn,Option.bind_some]
  have h1:=K4 y lanes hl hin _ rfl (AP y f) [] (fun b hb=>(BJ.1 hb).1) (by simp; omega)
  have h2:=(S4 n _ (Eh y.room.length (FF lanes [])) (AP y f) (by omega) (by omega)).trans h1
  rw [S9,show(Eh y.room.length fun _=>(Av.mk ([]:List Int) 0))=Eh y.room.length (FF lanes []) from rfl,h2,Option.bind_some,List.nil_append]
  have h3:=JD y lanes f hy hl hin n 0 (by omega) (by omega)
  rw [show((0:Nat):Int)=0 from rfl,show Eh y.room.length (GX y lanes f 0)=Eh y.room.length (FF lanes (AP y f)) from H2 fun k=>by unfold GX FF; simp [Ai]] at h3
  rw [h3]
  rfl
theorem Gc {y:Ag} {lanes:List Int} (h:B0 y lanes=true):lanes.length=y.buses.length∧∀ b∈Ai y.buses.length,DI (A8 lanes b) 0 ((y.room.length:Int)-1)=true:=by
  unfold B0 at h
  simp only [Bool.and_eq_true,decide_eq_true_eq] at h
  refine⟨h.1,fun b hb=>?_⟩
  have hbr:=Aw.1 hb
  have hcl:b.toNat<lanes.length:=by omega
  have:=O9 _ _ _ h.2 _ (List.getElem_mem hcl)
  unfold A8
  rw [List.getD_eq_getElem?_getD,List.getElem?_eq_getElem hcl]
  exact this
theorem DJ {y:Ag} {lanes:List Int} {f:Int→Bool} {k b:Int}:b∈(BZ y lanes f k).buses↔b∈Ai y.buses.length∧inl lanes k b=true:=by
  unfold BZ
  rw [List.mem_append,List.mem_filter,List.mem_filter,List.mem_filter,BJ]
  constructor
  · rintro(⟨⟨h1,_⟩,h2⟩ | ⟨⟨h1,_⟩,h2⟩) <;> exact⟨h1,h2⟩
  · rintro⟨h1,h2⟩
    cases hf:f b with
    | false=>exact .inl ⟨⟨h1,rfl⟩,h2⟩
    | true=>exact .inr ⟨⟨h1,rfl⟩,h2⟩
theorem P2 (y:Ag) (lanes:List Int) (f:Int→Bool) (k:Int):(BZ y lanes f k).buses.length≤2*y.buses.length:=by
  unfold BZ
  have h1:=List.length_filter_le (inl lanes k) (AP y f)
  have h2:=Ga y f
  have h3:=List.length_filter_le (inl lanes k) ((Ai y.buses.length).filter f)
  have h4:=List.length_filter_le f (Ai y.buses.length)
  rw [AU] at h4
  rw [List.length_append]
  omega
end Go.Proofs.YthcbemnflgjadaaGreat
namespace Go.Proofs.YthcbemnflgjadaaGreat
open Go Go.RowKit
def M6 (f:Int→Bool) (b:Int):Int→Bool:=fun x=>if x=b then true else f x
def Ih (N:Nat):Nat→Nat→(Int→Bool)→List (Int→Bool)
  | _,0,_=>[]
  | 0,_+1,_=>[]
  | m+1,r+1,f=>(M6 f ((N-(r+1):Nat):Int)::Ih N m r (M6 f ((N-(r+1):Nat):Int)))++Ih N (m+1) r f
theorem K5 (N:Nat):∀ (r m:Nat)(f:Int→Bool),(Ih N m r f).length+1≤2 ^ r
  | 0,m,f=>by cases m <;> simp [Ih]
  | r+1,0,f=>by
    have:1≤2 ^ (r+1):=Nat.one_le_two_pow
    simpa [Ih] using this
  | r+1,m+1,f=>by
    have h1:=K5 N r m (M6 f ((N-(r+1):Nat):Int))
    have h2:=K5 N r (m+1) f
    rw [Ih,List.length_append,List.length_cons,Nat.pow_succ]
    omega
theorem L3 (y:Ag) (hy:y.buses.length≤8):∀ (r n i m:Nat)(out:List Ar)(f:Int→Bool),2*r+1≤n→i+r=y.buses.length→m≤2→out.length+2 ^ r≤1000000 →
    AY n (A4 f) (m:Int) y out (i:Int)=some (out++(Ih y.buses.length m r f).map A4)
  | 0,n,i,m,out,f,hn,hi,hm,ho=>by
    obtain⟨n,rfl⟩:∃ k,n=k+1:=⟨n-1,by omega⟩
    have:i=y.buses.length:=by omega
    rw [AY,Bi,this]
    cases m <;> simp [Ih]
  | r+1,n,i,m,out,f,hn,hi,hm,ho=>by
    obtain⟨n,rfl⟩:∃ k,n=k+2:=⟨n-2,by omega⟩
    have hx:i<y.buses.length:=by omega
    have h0:(0:Int)≤(i:Int):=by omega
    have h8:(i:Int)<8:=by omega
    have hp:2 ^ (r+1)=2 ^ r+2 ^ r:=by rw [Nat.pow_succ]; omega
    have hp1:1≤2 ^ r:=Nat.one_le_two_pow
    rw [AY,Bi]
    cases m with
    | zero=>simp [hx,Ih]
    | succ m =>
      have g1:decide (((m+1:Nat):Int)>0)=true:=decide_eq_true (by omega)
      have w1:IntKind.i64.wrap (((m+1:Nat):Int)-1)=(m:Int):=by rw [MK (by omega) (by omega)]; omega
      have hb:((y.buses.length-(r+1):Nat):Int)=(i:Int):=by omega
      simp only [hx,decide_true,cond_true,g1,Option.bind_some,MV h0 h8,PW f h0 h8,w1]
      rw [CW i (by omega),show(A4 fun x=>if x=(i:Int) then true else f x)=A4 (M6 f (i:Int)) from rfl]
      have hl:=K5 y.buses.length r m (M6 f (i:Int))
      have e1:lane_Yard_breaks_1 (n+1) (A4 (M6 f (i:Int))) ((i+1:Nat):Int) (m:Int) out y=some (out++(M6 f (i:Int)::Ih y.buses.length m r (M6 f (i:Int))).map A4):=by
        rw [lane_Yard_breaks_1,CS _ _ (by simp; omega),Option.bind_some,L3 y hy r n (i+1) m _ _ (by omega) (by omega) (by omega) (by simp; omega),Option.bind_some]
        simp
      rw [e1,Option.bind_some,L3 y hy r (n+1) (i+1) (m+1) _ _ (by omega) (by omega) (by omega) (by simp; omega),Ih,hb]
      simp
def Bj (y:Ag):List (Int→Bool):=(fun _=>false)::Ih y.buses.length y.broken.toNat y.buses.length fun _=>false
theorem OA (n:Nat) {y:Ag} (hy:y.buses.length≤8) (hb:DI y.broken 0 2=true) (hn:20≤n):C1 n y=some ((Bj y).map A4):=by
  have hb':=Bs.1 hb
  obtain⟨m,hm⟩:=Int.eq_ofNat_of_zero_le hb'.1
  obtain⟨n,rfl⟩:∃ k,n=k+1:=⟨n-1,by omega⟩
  have hp:2 ^ y.buses.length≤2 ^ 8:=Nat.pow_le_pow_right (by omega) hy
  unfold C1
  rw [lane_Yard_breaks_1,CS _ _ (by simp),Option.bind_some,hm]
  have h1:=L3 y hy y.buses.length n 0 m ([]++[A4 fun _=>false]) (fun _=>false) (by omega) (by omega) (by omega) (by simp; omega)
  rw [show((0:Nat):Int)=0 from rfl] at h1
  rw [U7,show A4 (A5 [])=A4 (fun _=>false) from Hv fun x=>by simp [A5],h1]
  unfold Bj
  rw [hm]
  simp
theorem K6 (y:Ag) (hy:y.buses.length≤8):(Bj y).length≤256:=by
  have h1:=K5 y.buses.length y.buses.length y.broken.toNat fun _=>false
  have hp:2 ^ y.buses.length≤2 ^ 8:=Nat.pow_le_pow_right (by omega) hy
  unfold Bj
  rw [List.length_cons]
  omega
def BD (x:An) (b:Int):Int:=x.toL.getD b.toNat 0
theorem Kf (x:An) {b:Int} (h0:0≤b) (h8:b<8):B3 x.toL b=some (BD x b):=by
  rcases x with⟨x0,x1,x2,x3,x4,x5,x6,x7⟩
  rcases MW h0 h8 with h | h | h | h | h | h | h | h <;> subst h <;> rfl
def BT (y:Ag) (c:Av):AJ:=H0 y c.down c.buses 0 (-1)
def Nn (f:AJ) (l:List Int) (w:An):An:=l.foldl (fun w b=>Tt w b (BD f.tm b)) w
theorem No {y:Ag} (hy:y.buses.length≤8) (c:Av) (hc:∀ b∈c.buses,b∈Ai y.buses.length) (hl:c.buses.length≤1000) (f:AJ):∀ (n i:Nat)(w:An),c.buses.length<n+i→i≤c.buses.length →
    Bw n c f (i:Int) w=some (Nn f (c.buses.drop i) w)
  | 0,i,w,h,hi=>by omega
  | n+1,i,w,h,hi=>by
    rw [Bw,Bi]
    by_cases hx:i<c.buses.length
    · have hb:=Aw.1 (hc _ (List.getElem_mem hx))
      have h8:c.buses[i]<8:=by omega
      simp only [hx,decide_true,cond_true,CA _ _ hx,Option.bind_some,MV hb.1 h8,Kf f.tm hb.1 h8,P1 w hb.1 h8]
      rw [CW i (by omega),No hy c hc hl f n (i+1) _ (by omega) (by omega),AR hx]
      rfl
    · have:i=c.buses.length:=by omega
      subst this
      simp [Nn]
def Kg (y:Ag) (cs:List Av):Int:=(cs.map fun c=>(BT y c).many).sum
def GB (y:Ag) (cs:List Av) (w:An):An:=cs.foldl (fun w c=>Nn (BT y c) c.buses w) w
theorem Np {y:Ag} (hy:y.buses.length≤8) (cs:List Av) (hc:∀ c∈cs,(∀ b∈c.buses,b∈Ai y.buses.length)∧c.buses.length≤16) (hl:cs.length≤100):∀ (n i:Nat)(s:Int)(w:An),200≤n+i→i≤cs.length→0≤s∧s≤16*i →
    By n y cs (i:Int) s w=some (s+Kg y (cs.drop i),GB y (cs.drop i) w)
  | 0,i,s,w,h,hi,_=>by omega
  | n+1,i,s,w,h,hi,hs=>by
    rw [By,Bi]
    by_cases hx:i<cs.length
    · obtain⟨c1,c2⟩:=hc _ (List.getElem_mem hx)
      have hr:=ET y cs[i].down cs[i].buses 0 (-1)
      have hl3:=No hy cs[i] c1 (by omega) (BT y cs[i]) n 0 w (by omega) (by omega)
      rw [show((0:Nat):Int)=0 from rfl,List.drop_zero] at hl3
      have hw:BP n y cs[i]=some (BT y cs[i]):=Qi n hy c1 (by omega) (by omega)
      simp only [hx,decide_true,cond_true,CA _ _ hx,Option.bind_some,hw,hl3]
      have hm0:0≤(BT y cs[i]).many∧(BT y cs[i]).many≤16:=⟨hr.1,by have:=hr.2; unfold BT; omega⟩
      rw [CW i (by omega),MK (by omega) (by omega),Np hy cs hc hl n (i+1) _ _ (by omega) (by omega) ⟨by omega,by omega⟩,AR hx]
      unfold Kg GB
      rw [List.map_cons,List.sum_cons,List.foldl_cons]
      congr 2
      omega
    · have:i=cs.length:=by omega
      subst this
      simp [Kg,GB]
def Gd:An:=⟨0,0,0,0,0,0,0,0⟩
def EU (y:Ag) (lanes:List Int) (f:Int→Bool):Int:=Kg y (BN y lanes f)
def GC (y:Ag) (lanes:List Int) (f:Int→Bool):An:=GB y (BN y lanes f) Gd
def Ia (y:Ag) (lanes:List Int):List (Int→Bool)→Int×An×Ar→Int×An×Ar
  | [],s=>s
  | f::r,s=>Ia y lanes r (bif decide (EU y lanes f>s.1) then(EU y lanes f,GC y lanes f,A4 f) else s)
theorem P3 {y:Ag} {lanes:List Int} {f:Int→Bool} (hy:y.buses.length≤8):∀ c∈BN y lanes f,(∀ b∈c.buses,b∈Ai y.buses.length)∧c.buses.length≤16:=fun c hc=>by
  unfold BN Eh at hc
  obtain⟨k,_,rfl⟩:=List.mem_map.1 hc
  exact⟨fun b hb=>(DJ.1 hb).1,by have:=P2 y lanes f k; omega⟩
theorem Kh {y:Ag} {lanes:List Int} (hy:y.buses.length≤8) (hm:y.room.length≤3) (hv:y.buses.all D7=true) (hl:B0 y lanes=true) (B:List (Int→Bool)) (hB:B.length≤256):∀ (n i:Nat)(s:Int×An×Ar),500≤n+i→i≤B.length →
    Bf n y lanes (B.map A4) (i:Int) s.1 s.2.1 s.2.2=some (Ia y lanes (B.drop i) s)
  | 0,i,s,h,hi=>by omega
  | n+1,i,s,h,hi=>by
    obtain⟨l1,l2⟩:=Gc hl
    rw [Bf]
    rw [show decide ((i:Int)<(((B.map A4).length:Nat):Int))=decide (i<B.length) by rw [Bi,List.length_map]]
    by_cases hx:i<B.length
    · have hix:B3 (B.map A4) (i:Int)=some (A4 B[i]):=by rw [Rw,List.getElem?_map,List.getElem?_eq_getElem hx]; rfl
      have h2:=Np hy (BN y lanes B[i]) (P3 hy) (by unfold BN; rw [GW]; omega) n 0 0 Gd (by omega) (by omega) (by omega)
      rw [show((0:Nat):Int)=0 from rfl,List.drop_zero,Int.zero_add] at h2
      simp only [hx,decide_true,cond_true,hix,Option.bind_some,Nm n y lanes B[i] (by omega) hy hv l1 l2 (by omega)]
      rw [show(An.mk 0 0 0 0 0 0 0 0)=Gd from rfl,h2,Option.bind_some,CW i (by omega),AR hx,Ia]
      rw [show Kg y (BN y lanes B[i])=EU y lanes B[i] from rfl,show GB y (BN y lanes B[i]) Gd=GC y lanes B[i] from rfl]
      cases decide (EU y lanes B[i]>s.1) with
      | true=>exact Kh hy hm hv hl B hB n (i+1) (EU y lanes B[i],GC y lanes B[i],A4 B[i]) (by omega) (by omega)
      | false=>exact Kh hy hm hv hl B hB n (i+1) s (by omega) (by omega)
    · have:i=B.length:=by omega
      subst this
      simp [Ia]
def Ge (y:Ag) (lanes:List Int):Int×An×Ar:=Ia y lanes (Bj y) (-1,Gd,A4 fun _=>false)
theorem R5 (n:Nat) {y:Ag} {lanes:List Int} (hf:A6 y=0) (hl:B0 y lanes=true) (hn:500≤n):CH n y lanes=some ((Ge y lanes).2.1,(Ge y lanes).2.2,(Ge y lanes).1):=by
  obtain⟨v1,v0,v2,v3,v4,v5,v6⟩:=BI hf
  unfold CH
  rw [OA n v2 v3 (by omega),Option.bind_some]
  have h1:=Kh v2 v1 v5 hl (Bj y) (K6 y v2) n 0 (-1,Gd,A4 fun _=>false) (by omega) (by omega)
  rw [show((0:Nat):Int)=0 from rfl,List.drop_zero] at h1
  rw [show(An.mk 0 0 0 0 0 0 0 0)=Gd from rfl,show(Ar.mk false false false false false false false false)=A4 (fun _=>false) from rfl,h1]
  rfl
def AQ (y:Ag) (lanes:List Int):Int:=(Ge y lanes).1
theorem Ix (y:Ag) (lanes:List Int):∀ (B:List (Int→Bool))(s:Int×An×Ar),s.1≤(Ia y lanes B s).1∧∀ f∈B,EU y lanes f≤(Ia y lanes B s).1
  | [],s=>by simp [Ia]
  | f::r,s=>by
    rw [Ia]
    by_cases h:EU y lanes f>s.1
    · rw [decide_eq_true h,cond_true]
      obtain⟨h1,h2⟩:=Ix y lanes r (EU y lanes f,GC y lanes f,A4 f)
      refine⟨by simp only at h1; omega,fun g hg=>?_⟩
      rcases List.mem_cons.1 hg with rfl | hg
      · exact h1
      · exact h2 g hg
    · rw [decide_eq_false h,cond_false]
      obtain⟨h1,h2⟩:=Ix y lanes r s
      refine⟨h1,fun g hg=>?_⟩
      rcases List.mem_cons.1 hg with rfl | hg
      · omega
      · exact h2 g hg
theorem L4 (y:Ag) (lanes:List Int):∀ (B:List (Int→Bool))(s:Int×An×Ar),Ia y lanes B s=s∨∃ f∈B,Ia y lanes B s=(EU y lanes f,GC y lanes f,A4 f)
  | [],s=>.inl rfl
  | f::r,s=>by
    rw [Ia]
    cases decide (EU y lanes f>s.1) with
    | true =>
      rcases L4 y lanes r (EU y lanes f,GC y lanes f,A4 f) with h | ⟨g,hg,h⟩
      · exact .inr ⟨f,by simp,h⟩
      · exact .inr ⟨g,by simp [hg],h⟩
    | false =>
      rcases L4 y lanes r s with h | ⟨g,hg,h⟩
      · exact .inl h
      · exact .inr ⟨g,by simp [hg],h⟩
end Go.Proofs.YthcbemnflgjadaaGreat
namespace Go.Proofs.YthcbemnflgjadaaGreat
open Go Go.RowKit
def Iy (down:Int) (m:Int→Int):List Int→Int→Int→Int
  | [],_,_=>0
  | b::r,i,last=>(if m b≤last then 1 else 0)+Iy down m r (i+1) (if i<down then max last (m b) else last)
def Ug (y:Ag) (down:Int):List Int→Int→Int→Int
  | [],_,_=>0
  | b::r,i,last=>max ((if (Ao y b).lo≤last then 1 else 0)+Ug y down r (i+1) (if i<down then max last (Ao y b).lo else last)) ((if (Ao y b).hi≤last then 1 else 0)+Ug y down r (i+1) (if i<down then max last (Ao y b).hi else last))
theorem Ki (b t last:Int) (f:AJ):(CX b t last f).many=(if t≤last then 1 else 0)+f.many:=by
  unfold CX
  simp only
  split <;> omega
theorem R6 (y:Ag) (down:Int):∀ (l:List Int)(i last:Int),(H0 y down l i last).many=Ug y down l i last
  | [],_,_=>rfl
  | b::r,i,last=>by
    have h1:=R6 y down r (i+1) (if i<down then max last (Ao y b).lo else last)
    have h2:=R6 y down r (i+1) (if i<down then max last (Ao y b).hi else last)
    rw [H0,Ug,← h1,← h2,← Ki b,← Ki b]
    by_cases h:(CX b (Ao y b).hi last (H0 y down r (i+1) (if i<down then max last (Ao y b).hi else last))).many>(CX b (Ao y b).lo last (H0 y down r (i+1) (if i<down then max last (Ao y b).lo else last))).many
    · rw [decide_eq_true h,cond_true]; omega
    · rw [decide_eq_false h,cond_false]; omega
theorem Nq (y:Ag) (down:Int):∀ (l:List Int)(i a b:Int),a≤b→Ug y down l i a≤Ug y down l i b
  | [],_,_,_,_=>Int.le_refl _
  | c::r,i,a,b,h=>by
    have h1:=Nq y down r (i+1) (if i<down then max a (Ao y c).lo else a) (if i<down then max b (Ao y c).lo else b) (by split <;> omega)
    have h2:=Nq y down r (i+1) (if i<down then max a (Ao y c).hi else a) (if i<down then max b (Ao y c).hi else b) (by split <;> omega)
    rw [Ug,Ug]
    have e1:(if (Ao y c).lo≤a then(1:Int) else 0)≤(if (Ao y c).lo≤b then 1 else 0):=by split <;> split <;> omega
    have e2:(if (Ao y c).hi≤a then(1:Int) else 0)≤(if (Ao y c).hi≤b then 1 else 0):=by split <;> split <;> omega
    omega
theorem Sa {y:Ag} (down:Int) (m:Int→Int):∀ (l:List Int)(i last:Int),(∀ b∈l,(Ao y b).lo≤m b∧m b≤(Ao y b).hi)→Iy down m l i last≤Ug y down l i last
  | [],_,_,_=>Int.le_refl _
  | b::r,i,last,h=>by
    have hb:=h b (by simp)
    have hi:=Sa (y:=y) down m r (i+1) (if i<down then max last (m b) else last) fun c hc=>h c (by simp [hc])
    rw [Iy,Ug]
    by_cases hq:m b≤last
    · rw [if_pos hq,if_pos (show(Ao y b).lo≤last by omega)]
      have e1:(if i<down then max last (Ao y b).lo else last)=(if i<down then max last (m b) else last):=by split <;> omega
      rw [e1]
      omega
    · rw [if_neg hq]
      have h2:=Nq y down r (i+1) (if i<down then max last (m b) else last) (if i<down then max last (Ao y b).hi else last) (by split <;> omega)
      have e2:(0:Int)≤(if (Ao y b).hi≤last then 1 else 0):=by split <;> omega
      omega
theorem H3 (down:Int) {m m':Int→Int}:∀ (l:List Int)(i last:Int),(∀ b∈l,m b=m' b)→Iy down m l i last=Iy down m' l i last
  | [],_,_,_=>rfl
  | b::r,i,last,h=>by
    rw [Iy,Iy,h b (by simp),H3 down r _ _ fun c hc=>h c (by simp [hc])]
theorem Iz (x:An) {b c:Int} (h0:0≤b) (h8:b<8) (g0:0≤c) (g8:c<8) (t:Int):BD (Tt x b t) c=if c=b then t else BD x c:=by
  rcases x with⟨x0,x1,x2,x3,x4,x5,x6,x7⟩
  rcases MW h0 h8 with h | h | h | h | h | h | h | h <;> subst h <;>
    rcases MW g0 g8 with g | g | g | g | g | g | g | g <;> subst g <;> rfl
theorem L5 (y:Ag) (down:Int):∀ (l:List Int)(i last:Int),l.Nodup→(∀ b∈l,0≤b∧b<8) →
    Iy down (BD (H0 y down l i last).tm) l i last=(H0 y down l i last).many∧∀ b∈l,BD (H0 y down l i last).tm b=(Ao y b).lo∨BD (H0 y down l i last).tm b=(Ao y b).hi
  | [],_,_,_,_=>⟨rfl,by simp⟩
  | b::r,i,last,hn,h8=>by
    obtain⟨hnb,hnr⟩:=List.nodup_cons.1 hn
    have hb:=h8 b (by simp)
    have hr8:∀ c∈r,0≤c∧c<8:=fun c hc=>h8 c (by simp [hc])
    have way:∀ t:Int,(t=(Ao y b).lo∨t=(Ao y b).hi)→Iy down (BD (CX b t last (H0 y down r (i+1) (if i<down then max last t else last))).tm) (b::r) i last=(CX b t last (H0 y down r (i+1) (if i<down then max last t else last))).many ∧
        ∀ c∈b::r,BD (CX b t last (H0 y down r (i+1) (if i<down then max last t else last))).tm c=(Ao y c).lo∨BD (CX b t last (H0 y down r (i+1) (if i<down then max last t else last))).tm c=(Ao y c).hi:=fun t ht=>by
      obtain⟨e1,e2⟩:=L5 y down r (i+1) (if i<down then max last t else last) hnr hr8
      generalize H0 y down r (i+1) (if i<down then max last t else last)=F at e1 e2 ⊢
      have tmb:BD (CX b t last F).tm b=t:=by
        unfold CX
        rw [Iz _ hb.1 hb.2 hb.1 hb.2,if_pos rfl]
      have tmr:∀ c∈r,BD (CX b t last F).tm c=BD F.tm c:=fun c hc=>by
        have hcb : ¬ c=b:=fun hq=>hnb (hq▸hc)
        unfold CX
        rw [Iz _ hb.1 hb.2 (hr8 c hc).1 (hr8 c hc).2,if_neg hcb]
      refine⟨?_,fun c hc=>?_⟩
      · rw [Iy,tmb,H3 down r _ _ tmr,e1,Ki]
      · rcases List.mem_cons.1 hc with rfl | hc
        · rw [tmb]; exact ht
        · rw [tmr c hc]; exact e2 c hc
    rw [H0]
    cases decide ((CX b (Ao y b).hi last (H0 y down r (i+1) (if i<down then max last (Ao y b).hi else last))).many>(CX b (Ao y b).lo last (H0 y down r (i+1) (if i<down then max last (Ao y b).lo else last))).many) with
    | true=>exact way _ (.inr rfl)
    | false=>exact way _ (.inl rfl)
def I0 (m:Int→Int) (l:List Int):Int:=l.foldl (fun a b=>max a (m b)) (-1)
theorem R7 (m:Int→Int) (l:List Int) (b:Int):I0 m (l++[b])=max (I0 m l) (m b):=by simp [I0,List.foldl_append]
theorem Qm (m:Int→Int) (x:Int):∀ (l:List Int)(a:Int),x≤l.foldl (fun a b=>max a (m b)) a↔x≤a∨∃ b∈l,x≤m b
  | [],a=>by simp
  | b::r,a=>by
    rw [List.foldl_cons,Qm m x r]
    constructor
    · rintro(h | ⟨c,hc,h⟩)
      · rcases Int.le_total a (m b) with q | q
        · exact .inr ⟨b,by simp,by omega⟩
        · exact .inl (by omega)
      · exact .inr ⟨c,by simp [hc],h⟩
    · rintro(h | ⟨c,hc,h⟩)
      · exact .inl (by omega)
      · rcases List.mem_cons.1 hc with rfl | hc
        · exact .inl (by omega)
        · exact .inr ⟨c,hc,h⟩
theorem Qn {m:Int→Int} {x:Int} (hx:0≤x) (l:List Int):x≤I0 m l↔∃ b∈l,x≤m b:=by
  unfold I0
  rw [Qm]
  constructor
  · rintro(h | h)
    · omega
    · exact h
  · exact .inr
theorem U8 (down:Int) (m:Int→Int):∀ (B:List Int)(i last:Int),down≤i→Iy down m B i last=((B.filter fun c=>decide (m c≤last)).length:Int)
  | [],_,_,_=>rfl
  | c::r,i,last,h=>by
    rw [Iy,if_neg (show ¬ i<down by omega),U8 down m r (i+1) last (by omega),List.filter_cons]
    by_cases hq:m c≤last
    · simp [hq]; omega
    · simp [hq]
theorem U9 (down:Int) (m:Int→Int) (hm:∀ b,0≤m b) (key:Int→Int) (B:List Int):∀ (A pre:List Int)(i:Int),(pre++A).Pairwise (fun a b=>key a<key b)→i+(A.length:Int)≤down →
    Iy down m (A++B) i (I0 m pre)=((A.filter fun c=>(pre++A).any fun b=>decide (m c≤m b) && decide (key b<key c)).length:Int)+Iy down m B (i+(A.length:Int)) (I0 m (pre++A))
  | [],pre,i,_,_=>by simp
  | c::A,pre,i,hp,hd=>by
    have hs:(pre++[c])++A=pre++c::A:=by simp
    have hi:=U9 down m hm key B A (pre++[c]) (i+1) (by rw [hs]; exact hp) (by simp at hd; omega)
    rw [R7,hs] at hi
    rw [List.cons_append,Iy,if_pos (show i<down by simp at hd; omega),hi,List.filter_cons]
    have hc:(m c≤I0 m pre)↔((pre++c::A).any fun b=>decide (m c≤m b) && decide (key b<key c))=true:=by
      rw [Qn (hm c),List.any_eq_true]
      obtain⟨_,p2,p3⟩:=List.pairwise_append.1 hp
      obtain⟨p4,_⟩:=List.pairwise_cons.1 p2
      constructor
      · rintro⟨b,hb,h⟩
        exact⟨b,by simp [hb],by simp [h,p3 b hb c (by simp)]⟩
      · rintro⟨b,hb,h⟩
        simp only [Bool.and_eq_true,decide_eq_true_eq] at h
        rcases List.mem_append.1 hb with hb | hb
        · exact⟨b,hb,h.1⟩
        · rcases List.mem_cons.1 hb with rfl | hb
          · omega
          · have:=p4 b hb; omega
    by_cases hq:m c≤I0 m pre
    · rw [if_pos hq,if_pos (hc.1 hq),List.length_cons]
      simp only [List.length_cons]
      rw [show i+1+(A.length:Int)=i+((A.length+1:Nat):Int) by omega]
      omega
    · rw [if_neg hq,if_neg (fun h=>hq (hc.2 h)),List.length_cons]
      rw [show i+1+(A.length:Int)=i+((A.length+1:Nat):Int) by omega]
      omega
def J7 (y:Ag) (lanes:List Int) (f:Int→Bool) (m:Int→Int) (c:Int):Bool :=
  (Ai y.buses.length).any fun b=>!f b && (A8 lanes b == A8 lanes c && (decide (m c≤m b) && (f c || decide (Bn y b<Bn y c))))
theorem EV {l:List Int} {p q:Int→Bool} (h:∀ c∈l,p c=q c):(l.filter p).length=(l.filter q).length:=by
  rw [List.filter_congr h]
theorem SB {y:Ag} (hd:FY [] (y.buses.map (·.turn))=false) (lanes:List Int) (f:Int→Bool) (m:Int→Int) (hm:∀ b,0≤m b) (k:Int) :
    Iy (BZ y lanes f k).down m (BZ y lanes f k).buses 0 (-1)=(((BZ y lanes f k).buses.filter (J7 y lanes f m)).length:Int):=by
  have hs:((AP y f).filter (inl lanes k)).Pairwise fun a b=>Bn y a<Bn y b:=List.Pairwise.filter _ (Fg hd f)
  have h1:=U9 (((AP y f).filter (inl lanes k)).length:Int) m hm (Bn y) (((Ai y.buses.length).filter f).filter (inl lanes k)) ((AP y f).filter (inl lanes k)) [] 0 hs (by omega)
  rw [U8 _ m (((Ai y.buses.length).filter f).filter (inl lanes k)) _ _ (by omega)] at h1
  unfold BZ
  simp only
  rw [show I0 m []=-1 from rfl] at h1
  rw [h1,List.filter_append,List.length_append]
  have memA:∀ c,c∈(AP y f).filter (inl lanes k)↔(c∈Ai y.buses.length∧f c=false)∧A8 lanes c=k:=fun c=>by
    rw [List.mem_filter,BJ]; simp [inl]
  have e1:(((AP y f).filter (inl lanes k)).filter fun c=>([]++(AP y f).filter (inl lanes k)).any fun b=>decide (m c≤m b) && decide (Bn y b<Bn y c)).length=(((AP y f).filter (inl lanes k)).filter (J7 y lanes f m)).length:=EV fun c hc=>by
    have hc':=(memA c).1 hc
    rw [List.nil_append,Bool.eq_iff_iff,List.any_eq_true]
    unfold J7
    rw [List.any_eq_true]
    constructor
    · rintro⟨b,hb,h⟩
      have hb':=(memA b).1 hb
      exact⟨b,hb'.1.1,by simp only [Bool.and_eq_true,decide_eq_true_eq] at h; simp [hb'.1.2,hb'.2,hc'.2,h.1,h.2]⟩
    · rintro⟨b,hb,h⟩
      simp only [Bool.and_eq_true,decide_eq_true_eq,Bool.not_eq_true',beq_iff_eq,hc'.1.2,Bool.false_or] at h
      exact⟨b,(memA b).2 ⟨⟨hb,h.1⟩,by rw [h.2.1,hc'.2]⟩,by simp [h.2.2.1,h.2.2.2]⟩
  have e2:((((Ai y.buses.length).filter f).filter (inl lanes k)).filter fun c=>decide (m c≤I0 m ([]++(AP y f).filter (inl lanes k)))).length=((((Ai y.buses.length).filter f).filter (inl lanes k)).filter (J7 y lanes f m)).length:=EV fun c hc=>by
    rw [List.mem_filter,List.mem_filter] at hc
    have hl:A8 lanes c=k:=by simpa [inl] using hc.2
    rw [List.nil_append,Bool.eq_iff_iff,decide_eq_true_eq,Qn (hm c)]
    unfold J7
    rw [List.any_eq_true]
    constructor
    · rintro⟨b,hb,h⟩
      have hb':=(memA b).1 hb
      exact⟨b,hb'.1.1,by simp [hb'.1.2,hb'.2,hl,h,hc.1.2]⟩
    · rintro⟨b,hb,h⟩
      simp only [Bool.and_eq_true,decide_eq_true_eq,Bool.not_eq_true',beq_iff_eq] at h
      exact⟨b,(memA b).2 ⟨⟨hb,h.1⟩,by rw [h.2.1,hl]⟩,h.2.2.1⟩
  rw [e1,e2]
  omega
theorem Qo (y:Ag) (lanes:List Int) (f:Int→Bool) (k:Int):(BZ y lanes f k).buses.Perm ((Ai y.buses.length).filter (inl lanes k)):=by
  unfold BZ
  simp only
  rw [← List.filter_append]
  refine List.Perm.filter _ ?_
  refine List.Perm.trans (List.Perm.append_right _ (Ds _ (L0 y f))) ?_
  unfold L0
  refine List.Perm.trans List.perm_append_comm ?_
  exact List.filter_append_perm f _
def On (y:Ag) (lanes:List Int) (f:Int→Bool) (m:Int→Int) (ks:List Int):Int:=(ks.map fun k=>Iy (BZ y lanes f k).down m (BZ y lanes f k).buses 0 (-1)).sum
theorem Qp {y:Ag} (hd:FY [] (y.buses.map (·.turn))=false) (lanes:List Int) (f:Int→Bool) (m:Int→Int) (hm:∀ b,0≤m b):∀ r:Nat,
    On y lanes f m (Ai r)=((((Ai y.buses.length).filter (J7 y lanes f m)).filter fun c=>decide (A8 lanes c<(r:Int)) && decide (0≤A8 lanes c)).length:Int)
  | 0=>by
    have:((Ai y.buses.length).filter (J7 y lanes f m)).filter (fun c=>decide (A8 lanes c<((0:Nat):Int)) && decide (0≤A8 lanes c))=[]:=by
      rw [List.filter_eq_nil_iff]
      intro c _
      simp
    rw [this]
    rfl
  | r+1=>by
    have ih:=Qp hd lanes f m hm r
    rw [Ct]
    unfold On at ih ⊢
    rw [List.map_append,List.sum_append,ih,List.map_cons,List.map_nil,List.sum_cons,List.sum_nil,SB hd lanes f m hm]
    rw [((Qo y lanes f (r:Int)).filter (J7 y lanes f m)).length_eq]
    have hst:∀ s:List Int,(s.filter fun c=>decide (A8 lanes c<((r+1:Nat):Int)) && decide (0≤A8 lanes c)).length=(s.filter fun c=>decide (A8 lanes c<(r:Int)) && decide (0≤A8 lanes c)).length+(s.filter (inl lanes (r:Int))).length:=by
      intro s
      induction s with
      | nil=>rfl
      | cons c s ih =>
        rw [List.filter_cons,List.filter_cons,List.filter_cons]
        by_cases h1:A8 lanes c=(r:Int)
        · rw [if_pos (by simp; omega),if_neg (by simp; omega),if_pos (by simp [inl,h1])]
          simp only [List.length_cons]
          omega
        · rw [if_neg (c:=inl lanes (r:Int) c=true) (by simp [inl,h1])]
          by_cases h2:A8 lanes c<(r:Int)∧0≤A8 lanes c
          · rw [if_pos (by simp; omega),if_pos (by simp; omega)]
            simp only [List.length_cons]
            omega
          · rw [if_neg (by simp; omega),if_neg (by simp; omega)]
            exact ih
    have hcm:((Ai y.buses.length).filter (J7 y lanes f m)).filter (inl lanes (r:Int))=((Ai y.buses.length).filter (inl lanes (r:Int))).filter (J7 y lanes f m):=by
      rw [List.filter_filter,List.filter_filter]
      exact List.filter_congr fun c _=>Bool.and_comm _ _
    rw [hst,hcm]
    omega
theorem Qq {y:Ag} {lanes:List Int} (hd:FY [] (y.buses.map (·.turn))=false) (hin:∀ b∈Ai y.buses.length,DI (A8 lanes b) 0 ((y.room.length:Int)-1)=true) (f:Int→Bool) (m:Int→Int) (hm:∀ b,0≤m b) :
    On y lanes f m (Ai y.room.length)=(((Ai y.buses.length).filter (J7 y lanes f m)).length:Int):=by
  rw [Qp hd lanes f m hm,List.filter_eq_self.2]
  intro c hc
  have:=Bs.1 (hin c (List.mem_filter.1 hc).1)
  simp
  omega
theorem Tu {y:Ag} (lanes:List Int) (f:Int→Bool) (m:Int→Int) (hr:∀ b∈Ai y.buses.length,(Ao y b).lo≤m b∧m b≤(Ao y b).hi):∀ ks:List Int,On y lanes f m ks≤Kg y (ks.map (BZ y lanes f))
  | []=>Int.le_refl _
  | k::ks=>by
    have ih:=Tu lanes f m hr ks
    unfold On Kg at ih ⊢
    simp only [List.map_cons,List.sum_cons]
    have h1:=Sa (y:=y) (BZ y lanes f k).down m (BZ y lanes f k).buses 0 (-1) fun b hb=>hr b (DJ.1 hb).1
    rw [← R6] at h1
    have h2:(H0 y (BZ y lanes f k).down (BZ y lanes f k).buses 0 (-1)).many=(BT y (BZ y lanes f k)).many:=rfl
    omega
theorem K7 (f:AJ):∀ (l:List Int)(w:An)(b:Int),(∀ c∈l,0≤c∧c<8)→0≤b→b<8→BD (Nn f l w) b=if b∈l then BD f.tm b else BD w b
  | [],w,b,_,_,_=>by simp [Nn]
  | c::r,w,b,h,h0,h8=>by
    have hc:=h c (by simp)
    have ih:=K7 f r (Tt w c (BD f.tm c)) b (fun d hd=>h d (by simp [hd])) h0 h8
    unfold Nn at ih ⊢
    rw [List.foldl_cons,ih,Iz _ hc.1 hc.2 h0 h8]
    by_cases h1:b∈r
    · rw [if_pos h1,if_pos (by simp [h1])]
    · by_cases h2:b=c
      · subst h2
        rw [if_neg h1,if_pos rfl,if_pos (by simp)]
      · rw [if_neg h1,if_neg h2,if_neg (by simp [h1,h2])]
theorem Mg {y:Ag} (hy:y.buses.length≤8) (lanes:List Int) (f:Int→Bool) {b:Int} (hb:b∈Ai y.buses.length):∀ (ks:List Int)(w:An),
    BD (GB y (ks.map (BZ y lanes f)) w) b=if A8 lanes b∈ks then BD (BT y (BZ y lanes f (A8 lanes b))).tm b else BD w b
  | [],w=>by simp [GB]
  | k::ks,w=>by
    have hbr:=Aw.1 hb
    have ih:=Mg hy lanes f hb ks (Nn (BT y (BZ y lanes f k)) (BZ y lanes f k).buses w)
    unfold GB at ih ⊢
    rw [List.map_cons,List.foldl_cons,ih,K7 _ _ _ _ (fun c hc=>by have:=Aw.1 (DJ.1 hc).1; omega) (by omega) (by omega)]
    by_cases h1:A8 lanes b∈ks
    · rw [if_pos h1,if_pos (by simp [h1])]
    · by_cases h2:A8 lanes b=k
      · rw [if_neg h1,if_pos (DJ.2 ⟨hb,by simp [inl,h2]⟩),if_pos (by simp [h2]),h2]
      · rw [if_neg h1,if_neg (fun hq=>h2 (by simpa [inl] using (DJ.1 hq).2)),if_neg (by simp [h1,h2])]
theorem OB (y:Ag) (lanes:List Int) (f:Int→Bool) (k:Int):(BZ y lanes f k).buses.Nodup :=
  (Qo y lanes f k).nodup_iff.2 (List.Pairwise.filter _ (CF _))
def I1 (y:Ag) (lanes:List Int) (f:Int→Bool) (b:Int):Int:=BD (GC y lanes f) b
theorem Sb {y:Ag} (hy:y.buses.length≤8) {lanes:List Int} (hin:∀ b∈Ai y.buses.length,DI (A8 lanes b) 0 ((y.room.length:Int)-1)=true) (f:Int→Bool) {b:Int} (hb:b∈Ai y.buses.length) :
    I1 y lanes f b=BD (BT y (BZ y lanes f (A8 lanes b))).tm b:=by
  unfold I1 GC BN Eh
  rw [Mg hy lanes f hb,if_pos]
  have:=Bs.1 (hin b hb)
  exact Aw.2 ⟨this.1,by omega⟩
theorem Gf {y:Ag} (hy:y.buses.length≤8) (hv:y.buses.all D7=true) {lanes:List Int} (hin:∀ b∈Ai y.buses.length,DI (A8 lanes b) 0 ((y.room.length:Int)-1)=true) (f:Int→Bool) {b:Int} (hb:b∈Ai y.buses.length) :
    (Ao y b).lo≤I1 y lanes f b∧I1 y lanes f b≤(Ao y b).hi:=by
  rw [Sb hy hin f hb]
  have hk:=DY hv (B4.2 hb)
  have h:=(L5 y (BZ y lanes f (A8 lanes b)).down (BZ y lanes f (A8 lanes b)).buses 0 (-1) (OB y lanes f _) (fun c hc=>by have:=Aw.1 (DJ.1 hc).1; omega)).2 b (DJ.2 ⟨hb,by simp [inl]⟩)
  unfold BT
  rcases h with h | h <;> rw [h] <;> omega
theorem L6 {y:Ag} (lanes:List Int) (f:Int→Bool) {m m':Int→Int} (h:∀ b∈Ai y.buses.length,m b=m' b) (ks:List Int):On y lanes f m ks=On y lanes f m' ks:=by
  unfold On
  congr 1
  exact List.map_congr_left fun k _=>H3 _ _ _ _ fun b hb=>h b (DJ.1 hb).1
theorem Tv {y:Ag} (hy:y.buses.length≤8) {lanes:List Int} (hin:∀ b∈Ai y.buses.length,DI (A8 lanes b) 0 ((y.room.length:Int)-1)=true) (f:Int→Bool):On y lanes f (I1 y lanes f) (Ai y.room.length)=EU y lanes f:=by
  unfold On EU Kg BN Eh
  rw [List.map_map]
  congr 1
  refine List.map_congr_left fun k _=>?_
  have h:=(L5 y (BZ y lanes f k).down (BZ y lanes f k).buses 0 (-1) (OB y lanes f k) (fun c hc=>by have:=Aw.1 (DJ.1 hc).1; omega)).1
  show _=(BT y (BZ y lanes f k)).many
  unfold BT
  rw [← h]
  refine H3 _ _ _ _ fun b hb=>?_
  have hb':=DJ.1 hb
  rw [Sb hy hin f hb'.1,show A8 lanes b=k by simpa [inl] using hb'.2]
  rfl
theorem Un {y:Ag} (hd:FY [] (y.buses.map (·.turn))=false) {lanes:List Int} (hin:∀ b∈Ai y.buses.length,DI (A8 lanes b) 0 ((y.room.length:Int)-1)=true) (f:Int→Bool) (m:Int→Int) (hm:∀ b,0≤m b)
    (hr:∀ b∈Ai y.buses.length,(Ao y b).lo≤m b∧m b≤(Ao y b).hi):(((Ai y.buses.length).filter (J7 y lanes f m)).length:Int)≤EU y lanes f:=by
  rw [← Qq hd hin f m hm]
  exact Tu lanes f m hr _
end Go.Proofs.YthcbemnflgjadaaGreat
namespace Go.Proofs.YthcbemnflgjadaaGreat
open Go Go.RowKit
def OC (f:Int→Bool) (l:List Int):Int→Bool:=l.foldl M6 f
theorem Qr:∀ (l:List Int)(f:Int→Bool)(x:Int),OC f l x=(f x || A5 l x)
  | [],f,x=>by simp [OC,A5]
  | b::r,f,x=>by
    have ih:=Qr r (M6 f b) x
    unfold OC at ih ⊢
    rw [List.foldl_cons,ih]
    unfold M6 A5
    by_cases h:x=b
    · subst h; simp
    · rw [if_neg h,List.contains_cons,show(x == b)=false by simp [h],Bool.false_or]
theorem Qs (l:List Int):OC (fun _=>false) l=A5 l:=funext fun x=>by rw [Qr,Bool.false_or]
theorem Nr (N:Nat):∀ (r m:Nat)(f:Int→Bool)(l:List Int),l≠[]→l.Pairwise (· < ·)→(∀ b∈l,((N-r:Nat):Int)≤b∧b<N)→l.length≤m→r≤N→OC f l∈Ih N m r f
  | 0,m,f,[],hl,_,_,_,_=>absurd rfl hl
  | 0,m,f,b::l,_,_,hm,_,_=>by have:=hm b (by simp); omega
  | r+1,m,f,[],hl,_,_,_,_=>absurd rfl hl
  | r+1,0,f,b::l,_,_,_,h,_=>by simp at h
  | r+1,m+1,f,b::l,_,hp,hm,hl,hr=>by
    rw [List.pairwise_cons] at hp
    have hb:=hm b (by simp)
    rw [Ih,List.mem_append]
    by_cases h:b=((N-(r+1):Nat):Int)
    · left
      rw [← h]
      cases l with
      | nil=>exact List.mem_cons_self
      | cons c l' =>
        refine List.mem_cons_of_mem _ (Nr N r m (M6 f b) (c::l') (by simp) hp.2 (fun d hd=>?_) (by simp at hl ⊢; omega) (by omega))
        have h1:=hp.1 d hd
        have h2:=hm d (by simp at hd ⊢; exact .inr hd)
        omega
    · right
      refine Nr N r (m+1) f (b::l) (by simp) (List.pairwise_cons.2 hp) (fun d hd=>?_) hl (by omega)
      rcases List.mem_cons.1 hd with rfl | hd
      · omega
      · have h1:=hp.1 d hd
        have h2:=hm d (by simp [hd])
        omega
theorem L7 (N:Nat):∀ (r m:Nat)(f g:Int→Bool),g∈Ih N m r f→r≤N→∃ l,g=OC f l∧l.Pairwise (· < ·)∧(∀ b∈l,((N-r:Nat):Int)≤b∧b<N)∧l.length≤m
  | 0,m,f,g,h,_=>by cases m <;> simp [Ih] at h
  | r+1,0,f,g,h,_=>by simp [Ih] at h
  | r+1,m+1,f,g,h,hr=>by
    rw [Ih,List.mem_append] at h
    rcases h with h | h
    · rcases List.mem_cons.1 h with rfl | h
      · exact⟨[((N-(r+1):Nat):Int)],rfl,List.pairwise_singleton _ _,fun b hb=>by simp at hb; subst hb; omega,by simp⟩
      · obtain⟨l,e,h1,h2,h3⟩:=L7 N r m _ g h (by omega)
        refine⟨((N-(r+1):Nat):Int)::l,e,List.pairwise_cons.2 ⟨fun b hb=>?_,h1⟩,fun b hb=>?_,by simp; omega⟩
        · have:=h2 b hb; omega
        · rcases List.mem_cons.1 hb with rfl | hb
          · omega
          · have:=h2 b hb; omega
    · obtain⟨l,e,h1,h2,h3⟩:=L7 N r (m+1) f g h (by omega)
      exact⟨l,e,h1,fun b hb=>by have:=h2 b hb; omega,h3⟩
theorem R8 {y:Ag} {l:List Int} (h:E3 y l=true):A5 l∈Bj y:=by
  obtain⟨h1,h2,h3⟩:=ES h
  unfold Bj
  by_cases hl:l=[]
  · subst hl
    rw [show A5 []=fun _=>false from funext fun x=>by simp [A5]]
    exact List.mem_cons_self
  · rw [← Qs]
    refine List.mem_cons_of_mem _ (Nr _ _ _ _ l hl h1 (fun b hb=>?_) (by omega) (Nat.le_refl _))
    have:=Aw.1 (h2 b hb)
    omega
theorem Qt {y:Ag} (hb:DI y.broken 0 2=true) {f:Int→Bool} (h:f∈Bj y):∃ l,f=A5 l∧E3 y l=true:=by
  have hb':=Bs.1 hb
  unfold Bj at h
  rcases List.mem_cons.1 h with rfl | h
  · exact⟨[],funext fun x=>by simp [A5],Iw List.Pairwise.nil (by simp) (by simpa using hb'.1)⟩
  · obtain⟨l,e,h1,h2,h3⟩:=L7 _ _ _ _ _ h (Nat.le_refl _)
    refine⟨l,by rw [e,Qs],Iw h1 (fun b hb=>?_) (by omega)⟩
    have:=h2 b hb
    rw [Aw]
    omega
theorem L8 {R:Int→Int→Prop} {l:List Int} (hp:l.Pairwise R) {a b:Int} (ha:a∈l) (hb:b∈l) (h:Du l a<Du l b):R a b:=by
  unfold Du at h
  simp only [List.contains_iff_mem,ha,hb,if_true] at h
  have q1:=List.idxOf_lt_length_iff.2 ha
  have q2:=List.idxOf_lt_length_iff.2 hb
  have:=List.pairwise_iff_getElem.1 hp (l.idxOf a) (l.idxOf b) q1 q2 (by omega)
  rwa [List.getElem_idxOf q1,List.getElem_idxOf q2] at this
theorem SD {y:Ag} {order:List Int} (h:Er y order=true) {a b:Int} (ha:a∈Ai y.buses.length) (hb:b∈Ai y.buses.length) (hp:Du order a<Du order b):(Ao y a).lo≤(Ao y b).hi:=by
  have hO:=ER h
  unfold Er at h
  rw [Bool.and_eq_true] at h
  exact L8 (Nk y order [] h.2).1 ((hO.mem a).2 ha) ((hO.mem b).2 hb) hp
theorem Uo {y:Ag} {order:List Int} (hO:Hy y order) (hp:order.Pairwise fun a b=>(Ao y a).lo≤(Ao y b).hi):Er y order=true:=by
  unfold Er
  rw [decide_eq_true hO.len,Bool.true_and]
  exact Qe y order [] (by rw [List.nil_append]; exact hO.nd) (fun b hb=>(hO.mem b).1 hb) (by rw [List.nil_append]; exact hp)
def K8 (y:Ag) (order:List Int) (c:Int):Int:=O5 y ((Ai y.buses.length).filter fun b=>decide (Du order b≤Du order c))
theorem K9 {y:Ag} {l:List Int} {x:Int} (hx:0<x):x≤O5 y l↔∃ k∈l,x≤(Ao y k).lo:=by
  have h:=Tp y (x-1) (by omega) l
  constructor
  · intro h1
    rw [decide_eq_true (show x-1<O5 y l by omega)] at h
    obtain⟨k,hk,h2⟩:=List.any_eq_true.1 h.symm
    exact⟨k,hk,by have:=of_decide_eq_true h2; omega⟩
  · rintro⟨k,hk,h1⟩
    have:decide (x-1<O5 y l)=true:=by
      rw [h,List.any_eq_true]
      exact⟨k,hk,decide_eq_true (by omega)⟩
    have:=of_decide_eq_true this
    omega
theorem Ju (y:Ag):∀ l:List Int,∀ a,a≤l.foldl (fun m b=>max m (Ao y b).lo) a
  | [],a=>Int.le_refl _
  | b::r,a=>by
    have:=Ju y r (max a (Ao y b).lo)
    rw [List.foldl_cons]
    omega
theorem R9 {y:Ag} (hv:y.buses.all D7=true) {order:List Int} (h:Er y order=true) {c:Int} (hc:c∈Ai y.buses.length):(Ao y c).lo≤K8 y order c∧K8 y order c≤(Ao y c).hi:=by
  have hk:=DY hv (B4.2 hc)
  have h0:0≤K8 y order c:=Ju y _ 0
  constructor
  · by_cases hq:0<(Ao y c).lo
    · exact(K9 hq).2 ⟨c,List.mem_filter.2 ⟨hc,by simp⟩,Int.le_refl _⟩
    · omega
  · by_cases hq:(Ao y c).hi<K8 y order c
    · obtain⟨k,hk',h1⟩:=(K9 (show 0<(Ao y c).hi+1 by omega)).1 (show(Ao y c).hi+1≤K8 y order c by omega)
      rw [List.mem_filter,decide_eq_true_eq] at hk'
      have hO:=ER h
      by_cases he:Du order k=Du order c
      · have:=Ng ((hO.mem k).2 hk'.1) ((hO.mem c).2 hc) he
        subst this
        omega
      · have:=SD h hk'.1 hc (by omega)
        omega
    · omega
theorem SE {y:Ag} {order:List Int} {c b:Int} (h:Du order c≤Du order b):K8 y order c≤K8 y order b:=by
  have h0:0≤K8 y order b:=Ju y _ 0
  by_cases hq:0<K8 y order c
  · obtain⟨k,hk,h1⟩:=(K9 hq).1 (Int.le_refl (K8 y order c))
    rw [List.mem_filter,decide_eq_true_eq] at hk
    exact(K9 hq).2 ⟨k,List.mem_filter.2 ⟨hk.1,decide_eq_true (by omega)⟩,h1⟩
  · omega
theorem M7 {l:List Int} {p q:Int→Bool} (h:∀ c∈l,p c=true→q c=true):(l.filter p).length≤(l.filter q).length:=by
  rw [← List.countP_eq_length_filter,← List.countP_eq_length_filter]
  exact List.countP_mono_left h
theorem Tw {y:Ag} (hf:A6 y=0) {lanes:List Int} (hl:B0 y lanes=true) {order broken:List Int} (ho:Er y order=true) (hb:E3 y broken=true):((BY y lanes order broken).length:Int)≤AQ y lanes:=by
  obtain⟨v1,v0,v2,v3,v4,v5,v6⟩:=BI hf
  obtain⟨l1,l2⟩:=Gc hl
  have h1:=Un v6 l2 (A5 broken) (K8 y order) (fun b=>Ju y _ 0) fun b hb=>R9 v5 ho hb
  have h2:=(Ix y lanes (Bj y) (-1,Gd,A4 fun _=>false)).2 _ (R8 hb)
  have h3:(BY y lanes order broken).length≤((Ai y.buses.length).filter (J7 y lanes (A5 broken) (K8 y order))).length:=by
    have e:BY y lanes order broken=(Ai y.buses.length).filter (A5 (Jt y lanes order broken).flatten):=rfl
    rw [e]
    refine M7 fun c hc h=>?_
    have hm:c∈BY y lanes order broken:=by rw [e,List.mem_filter]; exact⟨hc,h⟩
    obtain⟨_,b,d1,d2,d3,d4⟩:=(Nj v6 lanes order broken c).1 hm
    unfold S5 at d3
    rw [Bool.and_eq_true,beq_iff_eq,decide_eq_true_eq] at d3
    unfold J7
    rw [List.any_eq_true]
    refine⟨b,d1,?_⟩
    have hmn:K8 y order c≤K8 y order b:=SE (by omega)
    rw [d2,d3.1,decide_eq_true hmn]
    cases hq:A5 broken c with
    | true=>simp
    | false=>simp [d4 hq]
  unfold AQ Ge
  omega
theorem Mh (y:Ag) (lanes:List Int) (f:Int→Bool):0≤EU y lanes f:=by
  unfold EU Kg
  have:∀ cs:List Av,0≤(cs.map fun c=>(BT y c).many).sum:=by
    intro cs
    induction cs with
    | nil=>simp
    | cons c cs ih =>
      have:=(ET y c.down c.buses 0 (-1)).1
      rw [List.map_cons,List.sum_cons]
      unfold BT at ih ⊢
      omega
  exact this _
theorem OD (y:Ag) (lanes:List Int):∃ f∈Bj y,Ge y lanes=(EU y lanes f,GC y lanes f,A4 f):=by
  rcases L4 y lanes (Bj y) (-1,Gd,A4 fun _=>false) with h | ⟨f,hf,h⟩
  · exfalso
    have h1:=(Ix y lanes (Bj y) (-1,Gd,A4 fun _=>false)).2 (fun _=>false) List.mem_cons_self
    rw [h] at h1
    have:=Mh y lanes fun _=>false
    simp only at h1
    omega
  · exact⟨f,hf,h⟩
def I2 (y:Ag) (f:Int→Bool) (b:Int):Int:=if f b then 2001 else Bn y b
def Ns (y:Ag) (lanes:List Int) (f:Int→Bool) (b:Int):Int:=100000*I1 y lanes f b+(8*(2001-I2 y f b)+b)
def Gg (y:Ag) (lanes:List Int) (f:Int→Bool):List Int:=EO (DS (Ns y lanes f)) (Ai y.buses.length)
def GY (y:Ag) (f:Int→Bool):List Int:=(Ai y.buses.length).filter f
theorem Dc {y:Ag} (hv:y.buses.all D7=true) (f:Int→Bool) {b:Int} (hb:b∈Ai y.buses.length):0≤I2 y f b∧I2 y f b≤2001:=by
  have hk:=DY hv (B4.2 hb)
  unfold I2 Bn
  split <;> omega
theorem OE (y:Ag) (lanes:List Int) (f:Int→Bool):Hy y (Gg y lanes f):=by
  have hp:=Ds (DS (Ns y lanes f)) (Ai y.buses.length)
  exact⟨hp.nodup_iff.2 (CF _),by unfold Gg; rw [D8,AU],fun b=>hp.mem_iff⟩
theorem Qu {y:Ag} (hy:y.buses.length≤8) (hv:y.buses.all D7=true) {lanes:List Int} (hin:∀ b∈Ai y.buses.length,DI (A8 lanes b) 0 ((y.room.length:Int)-1)=true) (f:Int→Bool):Er y (Gg y lanes f)=true:=by
  have hO:=OE y lanes f
  refine Uo hO (List.Pairwise.imp_of_mem (fun {a b} ha hb h=>?_) (FZ (Ns y lanes f) (Ai y.buses.length)))
  have ha':=(hO.mem a).1 ha
  have hb':=(hO.mem b).1 hb
  have h1:=Gf hy hv hin f ha'
  have h2:=Gf hy hv hin f hb'
  have h3:=Dc hv f ha'
  have h4:=Dc hv f hb'
  have h5:=Aw.1 ha'
  have h6:=Aw.1 hb'
  unfold Ns at h
  omega
theorem Qv {key:Int→Int} {l:List Int} (hs:l.Pairwise fun a b=>key a≤key b) {a b:Int} (ha:a∈l) (hb:b∈l):(key a<key b→Du l a<Du l b)∧(Du l a<Du l b→key a≤key b):=by
  refine⟨fun h=>?_,fun h=>L8 hs ha hb h⟩
  by_cases hq:Du l a<Du l b
  · exact hq
  · by_cases he:Du l a=Du l b
    · have:=Ng ha hb he
      subst this
      omega
    · have:=L8 hs hb ha (show Du l b<Du l a by omega)
      omega
theorem KA {y:Ag} {l:List Int} (h:E3 y l=true) (x:Int):A5 (GY y (A5 l)) x=A5 l x:=by
  obtain⟨_,h2,_⟩:=ES h
  rw [Bool.eq_iff_iff,Gb,Gb]
  unfold GY
  rw [List.mem_filter,Gb]
  exact⟨fun h=>h.2,fun h=>⟨h2 x h,h⟩⟩
theorem JE:∀ n,(Ai n).Pairwise (· < ·)
  | 0=>List.Pairwise.nil
  | n+1=>by
    rw [Ct,List.pairwise_append]
    refine⟨JE n,List.pairwise_singleton _ _,fun a ha b hb=>?_⟩
    have:=Aw.1 ha
    simp at hb
    omega
theorem Tx {y:Ag} {l:List Int} (h:E3 y l=true):E3 y (GY y (A5 l))=true:=by
  obtain⟨h1,h2,h3⟩:=ES h
  refine Iw (List.Pairwise.filter _ (JE _)) (fun b hb=>(List.mem_filter.1 hb).1) ?_
  have hp:(GY y (A5 l)).Perm l:=(List.perm_ext_iff_of_nodup (List.Pairwise.filter _ (CF _)) (h1.imp fun h=>Int.ne_of_lt h)).2 fun x=>by
    have e:=KA h x
    unfold GY at e
    rw [← Gb,e,Gb]
  rw [show(GY y (A5 l)).length=l.length from hp.length_eq]
  exact h3
theorem Qw {y:Ag} (hf:A6 y=0) {lanes:List Int} (hl:B0 y lanes=true) {l:List Int} (hb:E3 y l=true) :
    ((BY y lanes (Gg y lanes (A5 l)) (GY y (A5 l))).length:Int)=EU y lanes (A5 l):=by
  obtain⟨v1,v0,v2,v3,v4,v5,v6⟩:=BI hf
  obtain⟨l1,l2⟩:=Gc hl
  have hO:=OE y lanes (A5 l)
  have hr:∀ b∈Ai y.buses.length,(Ao y b).lo≤I1 y lanes (A5 l) b∧I1 y lanes (A5 l) b≤(Ao y b).hi:=fun b hb=>Gf v2 v5 l2 _ hb
  have hm0:∀ b,0≤(fun b=>max 0 (I1 y lanes (A5 l) b)) b:=fun b=>by simp only; omega
  have hcg:=L6 (y:=y) lanes (A5 l) (m:=fun b=>max 0 (I1 y lanes (A5 l) b)) (m':=I1 y lanes (A5 l)) (fun b hb=>by
    have h1:=hr b hb
    have h2:=DY v5 (B4.2 hb)
    omega) (Ai y.room.length)
  rw [← Tv v2 l2,← hcg,Qq v6 l2 _ _ hm0]
  congr 1
  have e:BY y lanes (Gg y lanes (A5 l)) (GY y (A5 l))=(Ai y.buses.length).filter (A5 (Jt y lanes (Gg y lanes (A5 l)) (GY y (A5 l))).flatten):=rfl
  rw [e]
  refine EV fun c hc=>?_
  have hm:=Nj v6 lanes (Gg y lanes (A5 l)) (GY y (A5 l)) c
  rw [e,List.mem_filter] at hm
  rw [Bool.eq_iff_iff]
  constructor
  · intro h
    obtain⟨_,b,d1,d2,d3,d4⟩:=hm.1 ⟨hc,h⟩
    rw [KA hb] at d2 d4
    unfold S5 at d3
    rw [Bool.and_eq_true,beq_iff_eq,decide_eq_true_eq] at d3
    have hk:=(Qv (FZ (Ns y lanes (A5 l)) (Ai y.buses.length)) ((hO.mem c).2 hc) ((hO.mem b).2 d1)).2 d3.2
    have t1:=Dc v5 (A5 l) hc
    have t2:=Dc v5 (A5 l) d1
    have r1:=Aw.1 hc
    have r2:=Aw.1 d1
    unfold Ns at hk
    unfold J7
    rw [List.any_eq_true]
    refine⟨b,d1,?_⟩
    have hmn:max 0 (I1 y lanes (A5 l) c)≤max 0 (I1 y lanes (A5 l) b):=by omega
    rw [d2,d3.1,decide_eq_true hmn]
    cases hq:A5 l c with
    | true=>simp
    | false=>simp [d4 hq]
  · intro h
    refine(hm.2 ⟨hc,?_⟩).2
    unfold J7 at h
    obtain⟨b,d1,d⟩:=List.any_eq_true.1 h
    simp only [Bool.and_eq_true,Bool.not_eq_true',beq_iff_eq,decide_eq_true_eq,Bool.or_eq_true] at d
    obtain⟨d2,d3,d4,d5⟩:=d
    have t1:=Dc v5 (A5 l) hc
    have t2:=Dc v5 (A5 l) d1
    have r1:=Aw.1 hc
    have r2:=Aw.1 d1
    have m1:=hr c hc
    have m2:=hr b d1
    have k1:=DY v5 (B4.2 hc)
    have k2:=DY v5 (B4.2 d1)
    refine⟨b,d1,by rw [KA hb]; exact d2,?_,fun hq=>?_⟩
    · unfold S5
      rw [Bool.and_eq_true,beq_iff_eq,decide_eq_true_eq]
      refine⟨d3.symm,(Qv (FZ (Ns y lanes (A5 l)) (Ai y.buses.length)) ((hO.mem c).2 hc) ((hO.mem b).2 d1)).1 ?_⟩
      have:I2 y (A5 l) b<I2 y (A5 l) c:=by
        unfold I2
        rw [d2]
        rcases d5 with d5 | d5
        · rw [d5]
          unfold Bn
          simp
          omega
        · unfold Bn at d5 ⊢
          cases A5 l c <;> simp <;> omega
      unfold Ns
      omega
    · rw [KA hb] at hq
      rcases d5 with d5 | d5
      · rw [hq] at d5; cases d5
      · exact d5
end Go.Proofs.YthcbemnflgjadaaGreat
namespace Go.Proofs.YthcbemnflgjadaaGreat
open Go Go.RowKit
def Ii (room:List Int):Nat→List Int→List (List Int)
  | 0,pre=>[pre]
  | r+1,pre=>(Ai room.length).flatMap fun k=>if (pre.count k:Int)<Bt room k then Ii room r (pre++[k]) else []
theorem Nt (room:List Int):∀ (r:Nat)(pre l:List Int),l∈Ii room r pre↔∃ s,l=pre++s∧s.length=r∧BK room pre s=true
  | 0,pre,l=>by
    rw [Ii,List.mem_singleton]
    constructor
    · rintro rfl; exact⟨[],by simp,rfl,rfl⟩
    · rintro⟨s,rfl,h,_⟩
      rw [List.eq_nil_of_length_eq_zero h,List.append_nil]
  | r+1,pre,l=>by
    rw [Ii,List.mem_flatMap]
    constructor
    · rintro⟨k,hk,h⟩
      have hk':=Aw.1 hk
      by_cases hq:(pre.count k:Int)<Bt room k
      · rw [if_pos hq,Nt room r] at h
        obtain⟨s,rfl,h1,h2⟩:=h
        refine⟨k::s,by simp,by simp [h1],?_⟩
        unfold BK
        rw [decide_eq_true hq,h2,show DI k 0 ((room.length:Int)-1)=true by rw [Bs]; omega]
        rfl
      · rw [if_neg hq] at h; simp at h
    · rintro⟨s,rfl,h1,h2⟩
      cases s with
      | nil=>simp at h1
      | cons k s =>
        unfold BK at h2
        simp only [Bool.and_eq_true,decide_eq_true_eq] at h2
        obtain⟨h3,h4,h5⟩:=h2
        rw [Bs] at h3
        refine⟨k,by rw [Aw]; omega,?_⟩
        rw [if_pos h4,Nt room r]
        exact⟨s,by simp,by simpa using h1,h5⟩
def KB (y:Ag):List (List Int):=Ii y.room y.buses.length []
theorem KC {y:Ag} {l:List Int}:l∈KB y↔B0 y l=true:=by
  unfold KB B0
  rw [Nt]
  simp only [List.nil_append,Bool.and_eq_true,decide_eq_true_eq]
  constructor
  · rintro⟨s,rfl,h⟩; exact h
  · intro h; exact⟨l,rfl,h⟩
def OF (f:List Int→Int) (s:Option (List Int×Int)) (l:List Int):Option (List Int×Int) :=
  match s with
  | none=>some (l,f l)
  | some (b,m)=>if f l<m then some (l,f l) else some (b,m)
def BU (f:List Int→Int) (L:List (List Int)) (s:Option (List Int×Int)):Option (List Int×Int):=L.foldl (OF f) s
theorem I3 (f:List Int→Int):∀ (L:List (List Int))(b:List Int)(m:Int),m=f b→∃ b',BU f L (some (b,m))=some (b',f b')∧(b' = b∨b'∈L)∧f b'≤m∧∀ l∈L,f b'≤f l
  | [],b,m,h=>⟨b,by unfold BU; rw [← h]; rfl,.inl rfl,by omega,by simp⟩
  | l::L,b,m,h=>by
    unfold BU
    rw [List.foldl_cons]
    unfold OF
    simp only
    by_cases hq:f l<m
    · rw [if_pos hq]
      obtain⟨b',e,h1,h2,h3⟩:=I3 f L l (f l) rfl
      refine⟨b',e,.inr ?_,by omega,fun c hc=>?_⟩
      · rcases h1 with rfl | h1 <;> simp [*]
      · rcases List.mem_cons.1 hc with rfl | hc
        · exact h2
        · exact h3 c hc
    · rw [if_neg hq]
      obtain⟨b',e,h1,h2,h3⟩:=I3 f L b m h
      refine⟨b',e,?_,h2,fun c hc=>?_⟩
      · rcases h1 with h1 | h1
        · exact .inl h1
        · exact .inr (by simp [h1])
      · rcases List.mem_cons.1 hc with rfl | hc
        · omega
        · exact h3 c hc
def H4 (y:Ag):Option (List Int×Int):=BU (AQ y) (KB y) none
theorem Qx {y:Ag} {b:List Int} {m:Int} (h:H4 y=some (b,m)):B0 y b=true∧m=AQ y b∧∀ l,B0 y l=true→m≤AQ y l:=by
  unfold H4 at h
  cases hL:KB y with
  | nil=>rw [hL] at h; cases h
  | cons c L =>
    rw [hL] at h
    obtain⟨b',e,h1,h2,h3⟩:=I3 (AQ y) L c (AQ y c) rfl
    rw [show BU (AQ y) (c::L) none=BU (AQ y) L (some (c,AQ y c)) from rfl,e] at h
    cases h
    refine⟨?_,rfl,fun l hl=>?_⟩
    · rw [← KC,hL]
      rcases h1 with rfl | h1 <;> simp [*]
    · rw [← KC,hL] at hl
      rcases List.mem_cons.1 hl with rfl | hl
      · exact h2
      · exact h3 l hl
theorem KD {α:Type} (g:α→Int):∀ (bs:List α)(m:Int),m≤bs.foldl (fun m b=>max m (g b)) m∧(∀ b∈bs,g b≤bs.foldl (fun m b=>max m (g b)) m)∧(∀ k,m≤k→(∀ b∈bs,g b≤k)→bs.foldl (fun m b=>max m (g b)) m≤k)
  | [],m=>⟨Int.le_refl _,by simp,fun k h _=>h⟩
  | b::r,m=>by
    obtain⟨h1,h2,h3⟩:=KD g r (max m (g b))
    rw [List.foldl_cons]
    refine⟨by omega,fun c hc=>?_,fun k hk hb=>h3 k (by have:=hb b (by simp); omega) fun c hc=>hb c (by simp [hc])⟩
    rcases List.mem_cons.1 hc with rfl | hc
    · omega
    · exact h2 c hc
theorem I4 {y:Ag} (hf:A6 y=0) {lanes:List Int} (hl:B0 y lanes=true):∃ l,E3 y l=true∧Ge y lanes=(EU y lanes (A5 l),GC y lanes (A5 l),A4 (A5 l)) ∧
    Er y (Gg y lanes (A5 l))=true∧E3 y (GY y (A5 l))=true∧((BY y lanes (Gg y lanes (A5 l)) (GY y (A5 l))).length:Int)=AQ y lanes:=by
  obtain⟨v1,v0,v2,v3,v4,v5,v6⟩:=BI hf
  obtain⟨l1,l2⟩:=Gc hl
  obtain⟨f,h1,h2⟩:=OD y lanes
  obtain⟨l,rfl,h3⟩:=Qt v3 h1
  refine⟨l,h3,h2,Qu v2 v5 l2 _,Tx h3,?_⟩
  rw [Qw hf hl h3]
  unfold AQ
  rw [h2]
theorem H5 {y:Ag} (hf:A6 y=0) {lanes:List Int} (hl:B0 y lanes=true):0≤AQ y lanes:=by
  obtain⟨l,_,_,_,_,h⟩:=I4 hf hl
  omega
end Go.Proofs.YthcbemnflgjadaaGreat
namespace Go.Proofs.YthcbemnflgjadaaGreat
open Go Go.RowKit
theorem Ty (n:Nat) (l:List Int) (i:Nat) (h:i<l.length) (hl:l.length≤100):BG (n+1) l (i:Int)=bif (l[i] != 0) then some (Ex.ret l[i]) else BG n l ((i+1:Nat):Int):=by
  rw [BG,Bi]
  simp only [h,decide_true,cond_true,CA _ _ h,Option.bind_some]
  rw [CW i (by omega)]
theorem UU (n:Nat) (l:List Int):BG (n+1) l (l.length:Int)=some (Ex.go ()):=by
  rw [BG,Bi]
  simp
theorem Vm (n:Nat) (a b c:Int):Gi (n+4) [a,b,c]=some (if a≠0 then a else if b≠0 then b else c):=by
  unfold Gi
  have h3:=UU n [a,b,c]
  have h2:=Ty (n+1) [a,b,c] 2 (by simp) (by simp)
  have h1:=Ty (n+2) [a,b,c] 1 (by simp) (by simp)
  have h0:=Ty (n+3) [a,b,c] 0 (by simp) (by simp)
  rw [show((([a,b,c]:List Int).length:Nat):Int)=((2+1:Nat):Int) from rfl] at h3
  rw [h3] at h2
  rw [h2] at h1
  rw [h1] at h0
  rw [show((0:Nat):Int)=0 from rfl] at h0
  rw [h0]
  simp only [List.getElem_cons_zero,List.getElem_cons_succ]
  by_cases ha:a=0
  · by_cases hb:b=0
    · by_cases hc:c=0
      · subst ha; subst hb; subst hc; rfl
      · have e:(c != 0)=true:=by simp [hc]
        rw [e]
        subst ha; subst hb
        rfl
    · have e:(b != 0)=true:=by simp [hb]
      rw [e]
      subst ha
      simp [hb,Ex.bind]
  · have e:(a != 0)=true:=by simp [ha]
    rw [e]
    simp [ha,Ex.bind]
theorem Mi (y:Ag) (P:An) (f:Int→Bool) (k:Int) (hy:y.buses.length≤8):∀ (n i:Nat),y.buses.length<n+i→i≤y.buses.length →
    Cw n y (P,A4 f,k) (Ai i) ((Ai i).filter f) (i:Int)=some (Ai y.buses.length,(Ai y.buses.length).filter f)
  | 0,i,h,hi=>by omega
  | n+1,i,h,hi=>by
    rw [Cw,Bi]
    by_cases hx:i<y.buses.length
    · have h0:(0:Int)≤(i:Int):=by omega
      have h8:(i:Int)<8:=by omega
      have hl:=List.length_filter_le f (Ai i)
      rw [AU] at hl
      have ih:=Mi y P f k hy n (i+1) (by omega) (by omega)
      rw [Ct,List.filter_append] at ih
      simp only [hx,decide_true,cond_true,MV h0 h8,Kw f h0 h8,Option.bind_some]
      rw [CS _ _ (by rw [AU]; simp; omega),Option.bind_some,CW i (by omega)]
      cases hf:f (i:Int) with
      | true =>
        rw [cond_true,CS _ _ (by simp; omega),Option.bind_some]
        rw [show([(i:Int)].filter f)=[(i:Int)] by simp [hf]] at ih
        exact ih
      | false =>
        rw [cond_false]
        rw [show([(i:Int)].filter f)=[] by simp [hf],List.append_nil] at ih
        exact ih
    · have:i=y.buses.length:=by omega
      subst this
      simp
theorem SF (n:Nat) {y:Ag} (hy:y.buses.length≤8) (hv:y.buses.all D7=true) {lanes:List Int} (hin:∀ b∈Ai y.buses.length,DI (A8 lanes b) 0 ((y.room.length:Int)-1)=true) (f:Int→Bool) {a b:Int} (ha:a∈Ai y.buses.length) (hb:b∈Ai y.buses.length) :
    ∃ d,Dh (n+4) a b (GC y lanes f) (fun y0=>B8 (n+4) y0 (A4 f) y)=some d∧decide (d<0)=DS (Ns y lanes f) a b:=by
  have ha':=Aw.1 ha
  have hb':=Aw.1 hb
  have a8:a<8:=by omega
  have b8:b<8:=by omega
  have t1:=Dc hv f ha
  have t2:=Dc hv f hb
  have m1:=Gf hy hv hin f ha
  have m2:=Gf hy hv hin f hb
  have k1:=DY hv (B4.2 ha)
  have k2:=DY hv (B4.2 hb)
  have late:∀ c∈Ai y.buses.length,B8 (n+4) c (A4 f) y=some (I2 y f c):=fun c hc=>by
    have hc':=Aw.1 hc
    have c8:c<8:=by omega
    unfold B8 I2 Bn
    rw [MV hc'.1 c8,Option.bind_some,Kw f hc'.1 c8,Option.bind_some]
    cases f c with
    | true=>rfl
    | false=>rw [cond_false,FL y (B4.2 hc)]; rfl
  unfold Dh
  rw [MV ha'.1 a8,Option.bind_some,Kf _ ha'.1 a8,Option.bind_some,MV hb'.1 b8,Option.bind_some,Kf _ hb'.1 b8,Option.bind_some]
  rw [show BD (GC y lanes f) a=I1 y lanes f a from rfl,show BD (GC y lanes f) b=I1 y lanes f b from rfl]
  simp only [late a ha,late b hb,Option.bind_some]
  rw [MK (x:=I1 y lanes f a-I1 y lanes f b) (by omega) (by omega),MK (x:=I2 y f b-I2 y f a) (by omega) (by omega),MK (x:=a-b) (by omega) (by omega),Vm]
  refine⟨_,rfl,?_⟩
  unfold DS Ns
  rw [decide_eq_decide]
  split
  · omega
  · split <;> omega
theorem SG (n:Nat) {y:Ag} (hf:A6 y≠0) (lanes:List Int) (hr:y.room.length≤100) (hb:y.buses.length≤100) (hn:500≤n):CN n y lanes=some ([],[],0,A6 y):=by
  unfold CN
  rw [Is n y (by omega) (by omega) (by omega) (by omega),Option.bind_some,show(A6 y != 0)=true by simp [hf],cond_true]
theorem RA (n:Nat) {y:Ag} (hf:A6 y=0) {lanes:List Int} (hl:B0 y lanes=false) (hll:lanes.length≤100) (hn:500≤n):CN n y lanes=some ([],[],0,2):=by
  obtain⟨v1,v0,v2,v3,v4,v5,v6⟩:=BI hf
  unfold CN
  rw [Is n y (by omega) (by omega) (by omega) (by omega),Option.bind_some,hf,Qb n y v4 (by omega) lanes (by omega) (by omega),Option.bind_some,hl]
  rfl
theorem Tz (n:Nat) {y:Ag} (hf:A6 y=0) {lanes:List Int} (hl:B0 y lanes=true) (hn:500≤n) :
    ∃ o b,CN n y lanes=some (o,b,AQ y lanes,0)∧Er y o=true∧E3 y b=true∧((BY y lanes o b).length:Int)=AQ y lanes:=by
  obtain⟨v1,v0,v2,v3,v4,v5,v6⟩:=BI hf
  obtain⟨l1,l2⟩:=Gc hl
  obtain⟨l,q1,q2,q3,q4,q5⟩:=I4 hf hl
  refine⟨_,_,?_,q3,q4,q5⟩
  obtain⟨n,rfl⟩:∃ m,n=m+4:=⟨n-4,by omega⟩
  unfold CN
  rw [Is (n+4) y (by omega) (by omega) (by omega) (by omega),Option.bind_some,hf,Qb (n+4) y v4 (by omega) lanes (by omega) (by omega),Option.bind_some,hl,R5 (n+4) hf hl hn,Option.bind_some]
  simp only [bne_self_eq_false,cond_false,Bool.not_true]
  have h1:=Mi y (Ge y lanes).2.1 (A5 l) (Ge y lanes).1 v2 (n+4) 0 (by omega) (by omega)
  rw [show Ai 0=[] from rfl,show((0:Nat):Int)=0 from rfl] at h1
  have e1:(Ge y lanes).2.2=A4 (A5 l):=by rw [q2]
  have e2:(Ge y lanes).2.1=GC y lanes (A5 l):=by rw [q2]
  rw [e1,show(([]:List Int).filter (A5 l))=[] from rfl] at *
  rw [h1,Option.bind_some,e2]
  rw [Mb (n+4) _ (DS (Ns y lanes (A5 l))) (Ai y.buses.length) (by rw [AU]; omega) (fun a ha b hb=>SF n v2 v5 l2 (A5 l) ha hb) (by rw [AU]; omega),Option.bind_some]
  rfl
end Go.Proofs.YthcbemnflgjadaaGreat
namespace Go.Proofs.YthcbemnflgjadaaGreat
open Go Go.RowKit
def Kj (s:Ar) (b:Int):Bool:=s.toL.getD b.toNat false
theorem Sc (f:Int→Bool) {b:Int} (h0:0≤b) (h8:b<8):Kj (A4 f) b=f b:=by
  rcases MW h0 h8 with h | h | h | h | h | h | h | h <;> subst h <;> rfl
def T0 (y:Ag) (k:E0):Av :=
  ⟨(AP y (Kj k.down)).filter (Kj k.buses)++((Ai y.buses.length).filter (Kj k.down)).filter (Kj k.buses),(((AP y (Kj k.down)).filter (Kj k.buses)).length:Int)⟩
def F4 (y:Ag) (lanes:List Int) (f:Int→Bool) (k:Int):E0:=⟨A4 (A5 (BZ y lanes f k).buses),A4 (A5 (((Ai y.buses.length).filter f).filter (inl lanes k)))⟩
theorem Up {y:Ag} (hy:y.buses.length≤8) (hd:FY [] (y.buses.map (·.turn))=false) (lanes:List Int) (f:Int→Bool) (k:Int):T0 y (F4 y lanes f k)=BZ y lanes f k:=by
  have hs:∀ b∈Ai y.buses.length,Kj (F4 y lanes f k).buses b=inl lanes k b:=fun b hb=>by
    have hb':=Aw.1 hb
    unfold F4
    rw [Sc _ hb'.1 (by omega),Bool.eq_iff_iff,Gb,DJ]
    exact⟨fun h=>h.2,fun h=>⟨hb,h⟩⟩
  have hf:∀ b∈Ai y.buses.length,Kj (F4 y lanes f k).down b=(f b && inl lanes k b):=fun b hb=>by
    have hb':=Aw.1 hb
    unfold F4
    rw [Sc _ hb'.1 (by omega),Bool.eq_iff_iff,Gb,List.mem_filter,List.mem_filter,Bool.and_eq_true]
    exact⟨fun h=>⟨h.1.2,h.2⟩,fun h=>⟨⟨hb,h.1⟩,h.2⟩⟩
  have e1:(AP y (Kj (F4 y lanes f k).down)).filter (Kj (F4 y lanes f k).buses)=(AP y f).filter (inl lanes k):=by
    have hm:∀ x,x∈(AP y (Kj (F4 y lanes f k).down)).filter (Kj (F4 y lanes f k).buses)↔x∈(AP y f).filter (inl lanes k):=fun x=>by
      rw [List.mem_filter,List.mem_filter,BJ,BJ]
      constructor
      · rintro⟨⟨h1,h2⟩,h3⟩
        rw [hf x h1] at h2
        rw [hs x h1] at h3
        rw [h3,Bool.and_true] at h2
        exact⟨⟨h1,h2⟩,h3⟩
      · rintro⟨⟨h1,h2⟩,h3⟩
        exact⟨⟨h1,by rw [hf x h1,h2]; rfl⟩,by rw [hs x h1]; exact h3⟩
    refine Mc (key:=Bn y) (fun a ha b hb h=>?_) ((List.Pairwise.filter _ (Fg hd _)).imp fun h=>Int.le_of_lt h) ((List.Pairwise.filter _ (Fg hd f)).imp fun h=>Int.le_of_lt h)
      ((List.perm_ext_iff_of_nodup (List.Pairwise.filter _ (Hw y _)) (List.Pairwise.filter _ (Hw y f))).2 hm)
    exact Qg hd (BJ.1 (List.mem_filter.1 ha).1).1 (BJ.1 (List.mem_filter.1 hb).1).1 h
  have e2:((Ai y.buses.length).filter (Kj (F4 y lanes f k).down)).filter (Kj (F4 y lanes f k).buses)=((Ai y.buses.length).filter f).filter (inl lanes k):=by
    rw [List.filter_filter,List.filter_filter]
    refine List.filter_congr fun b hb=>?_
    rw [hs b hb,hf b hb]
    cases f b <;> cases inl lanes k b <;> rfl
  unfold T0 BZ
  rw [e1,e2]
theorem KE {y:Ag} (hy:y.buses.length≤8) (c:Av) (hc:∀ b∈c.buses,b∈Ai y.buses.length) (hl:c.buses.length≤100) (a:Nat) (ha:c.down=(a:Int)):∀ (n i:Nat),c.buses.length<n+i→i≤c.buses.length →
    Cf n c (i:Int) (A4 (A5 (c.buses.take i))) (A4 (A5 ((c.buses.take i).drop a)))=some (A4 (A5 c.buses),A4 (A5 (c.buses.drop a)))
  | 0,i,h,hi=>by omega
  | n+1,i,h,hi=>by
    rw [Cf,Bi]
    by_cases hx:i<c.buses.length
    · have hb:=Aw.1 (hc _ (List.getElem_mem hx))
      have h8:c.buses[i]<8:=by omega
      have ih:=KE hy c hc hl a ha n (i+1) (by omega) (by omega)
      have et:c.buses.take (i+1)=c.buses.take i++[c.buses[i]]:=by rw [List.take_add_one,List.getElem?_eq_getElem hx]; rfl
      simp only [hx,decide_true,cond_true,CA _ _ hx,Option.bind_some,MV hb.1 h8,PW _ hb.1 h8]
      rw [CW i (by omega)]
      have e1:(A4 fun x=>if x=c.buses[i] then true else A5 (c.buses.take i) x)=A4 (A5 (c.buses.take (i+1))):=Hv fun x=>by rw [et,O4]
      have e2:(A4 fun x=>if x=c.buses[i] then decide ((i:Int)≥c.down) else A5 ((c.buses.take i).drop a) x)=A4 (A5 ((c.buses.take (i+1)).drop a)):=Hv fun x=>by
        by_cases hq:a≤i
        · have ed:(c.buses.take (i+1)).drop a=(c.buses.take i).drop a++[c.buses[i]]:=by
            rw [et,List.drop_append_of_le_length (by rw [List.length_take]; omega)]
          rw [ed,O4,decide_eq_true (show(i:Int)≥c.down by omega)]
        · have e3:(c.buses.take (i+1)).drop a=[]:=List.drop_eq_nil_of_le (by rw [List.length_take]; omega)
          have e4:(c.buses.take i).drop a=[]:=List.drop_eq_nil_of_le (by rw [List.length_take]; omega)
          rw [e3,e4,decide_eq_false (show ¬ (i:Int)≥c.down by omega)]
          simp [A5]
      rw [e1,e2]
      exact ih
    · have:i=c.buses.length:=by omega
      subst this
      simp
theorem UV {y:Ag} (hy:y.buses.length≤8) (lanes:List Int) (f:Int→Bool) (k:Int) (n:Nat) (hn:50≤n):Cf n (BZ y lanes f k) 0 (Ar.mk false false false false false false false false) (Ar.mk false false false false false false false false)=some ((F4 y lanes f k).buses,(F4 y lanes f k).down):=by
  have hl:=P2 y lanes f k
  have h:=KE hy (BZ y lanes f k) (fun b hb=>(DJ.1 hb).1) (by omega) ((AP y f).filter (inl lanes k)).length rfl n 0 (by omega) (by omega)
  rw [List.take_zero,List.drop_nil,show((0:Nat):Int)=0 from rfl,← U7] at h
  rw [h]
  unfold F4
  rw [show(BZ y lanes f k).buses.drop ((AP y f).filter (inl lanes k)).length=((Ai y.buses.length).filter f).filter (inl lanes k) from List.drop_left]
def CT (y:Ag) (m:List (E0×Int)):Prop:=∀ k v,De m k=some v→v=(BT y (T0 y k)).many
theorem CT.put {y:Ag} {m:List (E0×Int)} (h:CT y m) {k:E0} {v:Int} (hv:v=(BT y (T0 y k)).many):CT y (G7 m k v):=fun k' v' h'=>by
  rw [GT] at h'
  split at h'
  · rename_i he
    subst he
    cases h'
    exact hv
  · exact h k' v' h'
theorem H6 {y:Ag} (hy:y.buses.length≤8) (hd:FY [] (y.buses.map (·.turn))=false) (many:Int) (lanes:List Int) (f:Int→Bool) (cs:List Av) (hc:∀ c∈cs,∃ k,c=BZ y lanes f k) (hl:cs.length≤100):∀ (n i:Nat)(s:Int)(m:List (E0×Int)),200≤n+i→i≤cs.length→0≤s∧s≤16*i→CT y m →
    ∃ m',Cg n many y cs (i:Int) s m=some (s+Kg y (cs.drop i),m')∧CT y m'
  | 0,i,s,m,h,hi,_,_=>by omega
  | n+1,i,s,m,h,hi,hs,hm=>by
    rw [Cg,Bi]
    by_cases hx:i<cs.length
    · obtain⟨k,ek⟩:=hc _ (List.getElem_mem hx)
      have hcl:=P2 y lanes f k
      have hr:=ET y cs[i].down cs[i].buses 0 (-1)
      have hw:BP n y cs[i]=some (BT y cs[i]):=Qi n hy (fun b hb=>by rw [ek] at hb; exact(DJ.1 hb).1) (by rw [ek]; omega) (by rw [ek]; omega)
      have hkey:=UV hy lanes f k n (by omega)
      rw [← ek] at hkey
      have hv:(BT y cs[i]).many=(BT y (T0 y (F4 y lanes f k))).many:=by rw [Up hy hd,← ek]
      have hm0:0≤(BT y cs[i]).many∧(BT y cs[i]).many≤16:=⟨hr.1,by have:=hr.2; unfold BT; rw [ek] at this ⊢; omega⟩
      have fin:s+Kg y (cs.drop i)=(s+(BT y cs[i]).many)+Kg y (cs.drop (i+1)):=by
        rw [AR hx]
        unfold Kg
        rw [List.map_cons,List.sum_cons]
        omega
      simp only [hx,decide_true,cond_true,CA _ _ hx,Option.bind_some,hkey]
      rw [CW i (by omega)]
      cases hq:De m (E0.mk (F4 y lanes f k).buses (F4 y lanes f k).down) with
      | some v =>
        have ev:=hm _ _ hq
        have:Ea m (E0.mk (F4 y lanes f k).buses (F4 y lanes f k).down) (0:Int)=(v,true):=by unfold Ea; rw [hq]
        simp only [this,Bool.not_true,cond_false]
        have evv:v=(BT y cs[i]).many:=by rw [ev,hv]
        rw [evv,MK (by omega) (by omega),fin]
        exact H6 hy hd many lanes f cs hc hl n (i+1) _ m (by omega) (by omega) ⟨by omega,by omega⟩ hm
      | none =>
        have:Ea m (E0.mk (F4 y lanes f k).buses (F4 y lanes f k).down) (0:Int)=(0,false):=by unfold Ea; rw [hq]
        simp only [this,Bool.not_false,cond_true,hw,Option.bind_some]
        have h2:Ea (G7 m (E0.mk (F4 y lanes f k).buses (F4 y lanes f k).down) (BT y cs[i]).many) (E0.mk (F4 y lanes f k).buses (F4 y lanes f k).down) (0:Int)=((BT y cs[i]).many,true):=by
          unfold Ea; rw [GT,if_pos rfl]
        rw [h2]
        simp only
        rw [MK (by omega) (by omega),fin]
        exact H6 hy hd many lanes f cs hc hl n (i+1) _ _ (by omega) (by omega) ⟨by omega,by omega⟩ (hm.put hv)
    · have:i=cs.length:=by omega
      subst this
      exact⟨m,by simp [Kg],hm⟩
def UA (y:Ag) (lanes:List Int) (B:List (Int→Bool)) (m:Int):Int:=B.foldl (fun m f=>max m (EU y lanes f)) m
theorem SH (y:Ag) (lanes:List Int):UA y lanes (Bj y) 0=AQ y lanes:=by
  obtain⟨h1,h2,h3⟩:=KD (EU y lanes) (Bj y) 0
  obtain⟨f,hf,e⟩:=OD y lanes
  have h4:=h2 f hf
  have h5:=h3 (AQ y lanes) (by unfold AQ; rw [e]; exact Mh y lanes f) fun b hb=>(Ix y lanes (Bj y) (-1,Gd,A4 fun _=>false)).2 b hb
  have h6:AQ y lanes=EU y lanes f:=by unfold AQ; rw [e]
  unfold UA
  omega
theorem KF {y:Ag} {lanes:List Int} (hy:y.buses.length≤8) (hm:y.room.length≤3) (hv:y.buses.all D7=true) (hd:FY [] (y.buses.map (·.turn))=false) (hl:B0 y lanes=true) (found:Bool) (many:Int) (B:List (Int→Bool)) (hB:B.length≤256):∀ (n i:Nat)(s:Int)(m:List (E0×Int)),500≤n+i→i≤B.length→CT y m →
    ∃ r m',Ch n lanes found many (B.map A4) y (i:Int) s m=some (r,m')∧CT y m'∧(r=UA y lanes (B.drop i) s∨(found=true∧many≤r∧many≤UA y lanes (B.drop i) s))
  | 0,i,s,m,h,hi,_=>by omega
  | n+1,i,s,m,h,hi,hk=>by
    obtain⟨l1,l2⟩:=Gc hl
    rw [Ch]
    rw [show decide ((i:Int)<(((B.map A4).length:Nat):Int))=decide (i<B.length) by rw [Bi,List.length_map]]
    by_cases hx:i<B.length
    · have hix:B3 (B.map A4) (i:Int)=some (A4 B[i]):=by rw [Rw,List.getElem?_map,List.getElem?_eq_getElem hx]; rfl
      obtain⟨m1,a1,a2⟩:=H6 hy hd many lanes B[i] (BN y lanes B[i]) (fun c hc=>by
        unfold BN Eh at hc
        obtain⟨k,_,rfl⟩:=List.mem_map.1 hc
        exact⟨k,rfl⟩) (by unfold BN; rw [GW]; omega) n 0 0 m (by omega) (by omega) (by omega) hk
      rw [show((0:Nat):Int)=0 from rfl,List.drop_zero,Int.zero_add] at a1
      obtain⟨n,rfl⟩:∃ q,n=q+2:=⟨n-2,by omega⟩
      have hmx:UA y lanes (B.drop i) s=UA y lanes (B.drop (i+1)) (max s (EU y lanes B[i])):=by
        rw [AR hx]
        rfl
      simp only [hx,decide_true,cond_true,hix,Option.bind_some,Nm (n+2) y lanes B[i] (by omega) hy hv l1 l2 (by omega)]
      rw [a1]
      simp only [Option.bind_some]
      rw [Pw n,Option.bind_some,CW i (by omega),hmx]
      have ih:=KF hy hm hv hd hl found many B hB (n+2) (i+1) (max s (EU y lanes B[i])) m1 (by omega) (by omega) a2
      cases found with
      | false=>exact ih
      | true =>
        by_cases hq:max s (Kg y (BN y lanes B[i]))≥many
        · rw [cond_true,decide_eq_true hq,cond_true]
          have h1:=(KD (EU y lanes) (B.drop (i+1)) (max s (EU y lanes B[i]))).1
          refine⟨_,m1,rfl,a2,.inr ⟨rfl,by omega,?_⟩⟩
          unfold UA
          unfold EU at h1 ⊢
          omega
        · rw [cond_true,decide_eq_false hq,cond_false]
          exact ih
    · have:i=B.length:=by omega
      subst this
      exact⟨s,m,by simp,hk,.inl (by simp [UA])⟩
theorem OG (n:Nat) {y:Ag} {lanes:List Int} (hf:A6 y=0) (hl:B0 y lanes=true) (found:Bool) (many:Int) (m:List (E0×Int)) (hk:CT y m) (hn:500≤n) :
    ∃ r m',Ft n lanes found many ((Bj y).map A4) y m=some (r,m')∧CT y m'∧(r=AQ y lanes∨(found=true∧many≤r∧many≤AQ y lanes)):=by
  obtain⟨v1,v0,v2,v3,v4,v5,v6⟩:=BI hf
  obtain⟨r,m',h1,h2,h3⟩:=KF v2 v1 v5 v6 hl found many (Bj y) (K6 y v2) n 0 0 m (by omega) (by omega) hk
  rw [List.drop_zero,SH] at h3
  rw [show((0:Nat):Int)=0 from rfl] at h1
  unfold Ft
  rw [h1]
  exact⟨r,m',rfl,h2,h3⟩
def D9 (y:Ag) (pre:List Int):List Int:=E2 y.room.length fun k=>Bt y.room k-(pre.count k:Int)
def P4 (s:Option (List Int×Int)):Bool:=s.isSome
def Sd (s:Option (List Int×Int)):Int:=match s with | none=>0 | some p=>p.2
def Se (s:Option (List Int×Int)):List Int:=match s with | none=>[] | some p=>p.1
def T1 (y:Ag) (r:Nat):Prop:=∀ (n:Nat)(pre:List Int)(s:Option (List Int×Int))(m:List (E0×Int)),540+10*r≤n→pre.length+r=y.buses.length→BK y.room [] pre=true→CT y m →
    ∃ m',lane_Best_2 n pre (P4 s) (Sd s) (Se s) (D9 y pre) y ((Bj y).map A4) m=some (P4 (BU (AQ y) (Ii y.room r pre) s),Sd (BU (AQ y) (Ii y.room r pre) s),Se (BU (AQ y) (Ii y.room r pre) s),D9 y pre,m')∧CT y m'
theorem I5 {n i:Nat} (h:i<n):(Ai n).drop i=(i:Int)::(Ai n).drop (i+1):=by
  have hl:i<(Ai n).length:=by rw [AU]; exact h
  have e:(Ai n)[i]? = some (i:Int):=by
    unfold Ai
    rw [List.getElem?_map,List.getElem?_range h]
    rfl
  obtain⟨_,e'⟩:=List.getElem?_eq_some_iff.1 e
  rw [AR hl,e']
theorem H7 {y:Ag} (hf:A6 y=0) (r:Nat) (H:T1 y r) (pre:List Int) (hl:pre.length+(r+1)=y.buses.length) (hR:BK y.room [] pre=true):∀ (n i:Nat)(s:Option (List Int×Int))(m:List (E0×Int)),546+10*r≤n+i→i≤y.room.length→CT y m →
    ∃ m',Ci n pre (D9 y pre) y ((Bj y).map A4) (D9 y pre) (i:Int) (P4 s) (Sd s) (Se s) m =
      some (D9 y pre,P4 (BU (AQ y) (((Ai y.room.length).drop i).flatMap fun k=>if (pre.count k:Int)<Bt y.room k then Ii y.room r (pre++[k]) else []) s),Sd (BU (AQ y) (((Ai y.room.length).drop i).flatMap fun k=>if (pre.count k:Int)<Bt y.room k then Ii y.room r (pre++[k]) else []) s),Se (BU (AQ y) (((Ai y.room.length).drop i).flatMap fun k=>if (pre.count k:Int)<Bt y.room k then Ii y.room r (pre++[k]) else []) s),m')∧CT y m'
  | 0,i,s,m,h,hi,_=>by
    obtain⟨v1,_⟩:=BI hf
    omega
  | n+1,i,s,m,h,hi,hk=>by
    obtain⟨v1,v0,v2,v3,v4,v5,v6⟩:=BI hf
    rw [Ci]
    rw [show decide ((i:Int)<(((D9 y pre).length:Nat):Int))=decide (i<y.room.length) by rw [Bi]; unfold D9; rw [Jr]]
    by_cases hx:i<y.room.length
    · have hbt:DI (i:Int) 0 ((y.room.length:Int)-1)=true:=by rw [Bs]; omega
      have hra:=Js v4 hbt
      have hcl:pre.count (i:Int)≤pre.length:=List.count_le_length
      have hidx:B3 (D9 y pre) (i:Int)=some (Bt y.room (i:Int)-(pre.count (i:Int):Int)):=Kx hbt
      simp only [hx,decide_true,cond_true,hidx,Option.bind_some]
      rw [I5 hx,List.flatMap_cons]
      by_cases hq:(pre.count (i:Int):Int)<Bt y.room (i:Int)
      · rw [decide_eq_true (show Bt y.room (i:Int)-(pre.count (i:Int):Int)>0 by omega),cond_true,if_pos hq]
        have hup:upd (D9 y pre) (i:Int) (IntKind.i64.wrap (Bt y.room (i:Int)-(pre.count (i:Int):Int)-1))=some (D9 y (pre++[(i:Int)])):=by
          unfold D9
          rw [MM hbt]
          congr 2
          funext x
          rw [EP]
          by_cases hxe:x=(i:Int)
          · rw [if_pos hxe,if_pos hxe,MK (by omega) (by omega),hxe]; omega
          · rw [if_neg hxe,if_neg hxe]; omega
        have hR':BK y.room [] (pre++[(i:Int)])=true:=by
          rw [GA,hR,hbt,List.nil_append,decide_eq_true hq]
          rfl
        obtain⟨m1,a1,a2⟩:=H n (pre++[(i:Int)]) s m (by omega) (by simp; omega) hR' hk
        rw [hup,Option.bind_some,CS _ _ (by simp; omega),Option.bind_some,a1,Option.bind_some]
        have hidx2:B3 (D9 y (pre++[(i:Int)])) (i:Int)=some (Bt y.room (i:Int)-((pre++[(i:Int)]).count (i:Int):Int)):=Kx hbt
        have hup2:upd (D9 y (pre++[(i:Int)])) (i:Int) (IntKind.i64.wrap (Bt y.room (i:Int)-((pre++[(i:Int)]).count (i:Int):Int)+1))=some (D9 y pre):=by
          have hc2:=EP pre (i:Int) (i:Int)
          rw [if_pos rfl] at hc2
          unfold D9
          rw [MM hbt]
          congr 2
          funext x
          by_cases hxe:x=(i:Int)
          · rw [if_pos hxe,MK (by omega) (by omega),hxe]; omega
          · rw [if_neg hxe,EP,if_neg hxe]; omega
        simp only [hidx2,Option.bind_some]
        rw [hup2,Option.bind_some,CW i (by omega)]
        have el:∀ B,BU (AQ y) (Ii y.room r (pre++[(i:Int)])++B) s=BU (AQ y) B (BU (AQ y) (Ii y.room r (pre++[(i:Int)])) s):=fun B=>by unfold BU; rw [List.foldl_append]
        rw [el]
        exact H7 hf r H pre hl hR n (i+1) _ m1 (by omega) (by omega) a2
      · rw [decide_eq_false (show ¬ Bt y.room (i:Int)-(pre.count (i:Int):Int)>0 by omega),cond_false,if_neg hq,List.nil_append,CW i (by omega)]
        exact H7 hf r H pre hl hR n (i+1) s m (by omega) (by omega) hk
    · have:i=y.room.length:=by omega
      subst this
      refine⟨m,?_,hk⟩
      rw [show(Ai y.room.length).drop y.room.length=[] from List.drop_eq_nil_of_le (by rw [AU]; exact Nat.le_refl _)]
      simp [BU]
theorem OH {y:Ag} (hf:A6 y=0):∀ r,T1 y r
  | 0,n,pre,s,m,hn,hl,hR,hk=>by
    obtain⟨v1,v0,v2,v3,v4,v5,v6⟩:=BI hf
    obtain⟨n,rfl⟩:∃ q,n=q+1:=⟨n-1,by omega⟩
    have hlb:B0 y pre=true:=by unfold B0; rw [decide_eq_true (show pre.length=y.buses.length by omega),hR]; rfl
    have hc:(((pre.length:Nat):Int) == ((y.buses.length:Nat):Int))=true:=by rw [beq_iff_eq]; omega
    cases s with
    | none =>
      show ∃ m',lane_Best_2 (n+1) pre false 0 [] (D9 y pre) y ((Bj y).map A4) m=some (true,AQ y pre,pre,D9 y pre,m')∧CT y m'
      obtain⟨q,m1,a1,a2,a3⟩:=OG n hf hlb false 0 m hk (by omega)
      have hq:q=AQ y pre:=by
        rcases a3 with h | ⟨h,_⟩
        · exact h
        · cases h
      refine⟨m1,?_,a2⟩
      rw [lane_Best_2,hc,cond_true,a1,hq]
      simp only [Option.bind_some,Bool.not_false,cond_true,Kv n pre (by omega)]
    | some p =>
      obtain⟨b,k⟩:=p
      obtain⟨q,m1,a1,a2,a3⟩:=OG n hf hlb true k m hk (by omega)
      have e:BU (AQ y) (Ii y.room 0 pre) (some (b,k))=if AQ y pre<k then some (pre,AQ y pre) else some (b,k):=rfl
      by_cases hq:AQ y pre<k
      · rw [e,if_pos hq]
        show ∃ m',lane_Best_2 (n+1) pre true k b (D9 y pre) y ((Bj y).map A4) m=some (true,AQ y pre,pre,D9 y pre,m')∧CT y m'
        have hw:q=AQ y pre:=by
          rcases a3 with h | ⟨_,_,h⟩
          · exact h
          · omega
        refine⟨m1,?_,a2⟩
        rw [lane_Best_2,hc,cond_true,a1,hw]
        simp only [Option.bind_some,Bool.not_true,cond_false,decide_eq_true hq,cond_true,Kv n pre (by omega)]
      · rw [e,if_neg hq]
        show ∃ m',lane_Best_2 (n+1) pre true k b (D9 y pre) y ((Bj y).map A4) m=some (true,k,b,D9 y pre,m')∧CT y m'
        have hw : ¬ q<k:=by
          rcases a3 with h | ⟨_,h,_⟩
          · rw [h]; exact hq
          · omega
        refine⟨m1,?_,a2⟩
        rw [lane_Best_2,hc,cond_true,a1]
        simp only [Option.bind_some,Bool.not_true,cond_false,decide_eq_false hw]
  | r+1,n,pre,s,m,hn,hl,hR,hk=>by
    obtain⟨n,rfl⟩:∃ q,n=q+1:=⟨n-1,by omega⟩
    rw [lane_Best_2,show((((pre.length:Nat):Int) == ((y.buses.length:Nat):Int)))=false by
      cases hq:(((pre.length:Nat):Int) == ((y.buses.length:Nat):Int)) with
      | false=>rfl
      | true=>rw [beq_iff_eq] at hq; omega,cond_false]
    obtain⟨m1,a1,a2⟩:=H7 hf r (OH hf r) pre hl hR n 0 s m (by omega) (by omega) hk
    refine⟨m1,?_,a2⟩
    rw [show((0:Nat):Int)=0 from rfl,List.drop_zero] at a1
    rw [a1]
    rfl
theorem SI (y:Ag):D9 y []=y.room:=by
  unfold D9
  conv=>rhs; rw [Nb y.room]
  congr 1
  funext k
  unfold Bt
  simp
theorem T2 (n:Nat) {y:Ag} (hf:A6 y≠0) (hr:y.room.length≤100) (hb:y.buses.length≤100) (hn:500≤n):Es n y=some ([],0,A6 y):=by
  unfold Es
  rw [Is n y (by omega) (by omega) (by omega) (by omega),Option.bind_some,show(A6 y != 0)=true by simp [hf],cond_true]
theorem Uq (n:Nat) {y:Ag} (hf:A6 y=0) (hn:640≤n):Es n y=some (match H4 y with | none=>([],0,9) | some p=>(p.1,p.2,0)):=by
  obtain⟨v1,v0,v2,v3,v4,v5,v6⟩:=BI hf
  obtain⟨m,a1,_⟩:=OH hf y.buses.length n [] none [] (by omega) (by simp) rfl (fun k v h=>by simp [De] at h)
  unfold Es
  rw [Is n y (by omega) (by omega) (by omega) (by omega),Option.bind_some,hf,OA n v2 v3 (by omega),Option.bind_some,Kv n y.room (by omega),Option.bind_some]
  rw [SI] at a1
  simp only [bne_self_eq_false,cond_false]
  rw [show lane_Best_2 n [] false 0 [] y.room y ((Bj y).map A4) []=_ from a1,Option.bind_some]
  rw [show BU (AQ y) (Ii y.room y.buses.length []) none=H4 y from rfl]
  cases H4 y with
  | none=>rfl
  | some p=>rfl
end Go.Proofs.YthcbemnflgjadaaGreat
namespace Go.Proofs.YthcbemnflgjadaaGreat
open Go Go.RowKit
def OI:Nat→Nat
  | 0=>1
  | n+1=>(n+1)*OI n
def BX (y:Ag):Nat→List Int→List (List Int)
  | 0,pre=>if Er y pre then [pre] else []
  | r+1,pre=>(Ai y.buses.length).flatMap fun b=>if pre.contains b then [] else BX y r (pre++[b])
theorem H8 (y:Ag):∀ (r:Nat)(pre l:List Int),l∈BX y r pre→Er y l=true
  | 0,pre,l,h=>by
    unfold BX at h
    by_cases hq:Er y pre=true
    · rw [if_pos hq,List.mem_singleton] at h; rw [h]; exact hq
    · rw [if_neg hq] at h; simp at h
  | r+1,pre,l,h=>by
    unfold BX at h
    obtain⟨b,_,h⟩:=List.mem_flatMap.1 h
    by_cases hq:pre.contains b=true
    · rw [if_pos hq] at h; simp at h
    · rw [if_neg hq] at h; exact H8 y r _ l h
theorem Mj (y:Ag):∀ (r:Nat)(pre s:List Int),s.length=r→Er y (pre++s)=true→pre++s∈BX y r pre
  | 0,pre,s,h,hp=>by
    have:s=[]:=List.eq_nil_of_length_eq_zero h
    subst this
    rw [List.append_nil] at hp ⊢
    unfold BX
    rw [if_pos hp]
    exact List.mem_singleton.2 rfl
  | r+1,pre,[],h,hp=>by simp at h
  | r+1,pre,b::s,h,hp=>by
    have hO:=ER hp
    unfold BX
    rw [List.mem_flatMap]
    refine⟨b,(hO.mem b).1 (by simp),?_⟩
    have hn:=hO.nd
    rw [List.nodup_append] at hn
    have : ¬ (pre.contains b=true):=fun hq=>hn.2.2 b (by simpa using hq) b (by simp) rfl
    rw [if_neg this]
    have:=Mj y r (pre++[b]) s (by simpa using h) (by simpa using hp)
    simpa using this
theorem Sf {α:Type} (g:Int→List α) (c:Nat) (p:Int→Bool):∀ l:List Int,(∀ b∈l,(g b).length≤if p b then 0 else c)→(l.flatMap g).length≤(l.filter fun b=>!p b).length*c
  | [],_=>by simp
  | b::l,h=>by
    have h1:=Sf g c p l fun d hd=>h d (by simp [hd])
    have h2:=h b (by simp)
    rw [List.flatMap_cons,List.length_append,List.filter_cons]
    cases hp:p b with
    | true =>
      rw [hp,if_pos rfl] at h2
      rw [if_neg (by simp)]
      omega
    | false =>
      rw [hp,if_neg (by simp)] at h2
      rw [show(!false)=true from rfl,if_pos rfl,List.length_cons,Nat.add_mul]
      omega
theorem Qy {n:Nat} {pre:List Int} (hn:pre.Nodup) (hm:∀ b∈pre,b∈Ai n):((Ai n).filter fun b=>!pre.contains b).length+pre.length=n:=by
  have h1:((Ai n).filter fun b=>pre.contains b).Perm pre:=(List.perm_ext_iff_of_nodup (List.Pairwise.filter _ (CF _)) hn).2 fun x=>by
    rw [List.mem_filter]
    simp only [List.contains_iff_mem]
    exact⟨fun h=>h.2,fun h=>⟨hm x h,h⟩⟩
  have h2:=(List.filter_append_perm (fun b=>pre.contains b) (Ai n)).length_eq
  rw [List.length_append,h1.length_eq,AU] at h2
  omega
theorem I6 (y:Ag):∀ (r:Nat)(pre:List Int),pre.Nodup→(∀ b∈pre,b∈Ai y.buses.length)→pre.length+r=y.buses.length→(BX y r pre).length≤OI r
  | 0,pre,_,_,_=>by
    unfold BX OI
    split <;> simp
  | r+1,pre,hn,hm,hl=>by
    unfold BX OI
    have h1:=Sf (fun b=>if pre.contains b then [] else BX y r (pre++[b])) (OI r) (fun b=>pre.contains b) (Ai y.buses.length) fun b hb=>by
      by_cases hq:pre.contains b=true
      · rw [if_pos hq,if_pos hq]; simp
      · rw [if_neg hq,if_neg hq]
        refine I6 y r (pre++[b]) ?_ (fun c hc=>?_) (by simp; omega)
        · rw [List.nodup_append]
          refine⟨hn,by simp,fun a ha c hc=>?_⟩
          simp at hc
          rintro rfl
          exact hq (by simpa [← hc] using ha)
        · rcases List.mem_append.1 hc with hc | hc
          · exact hm c hc
          · simp at hc; rw [hc]; exact hb
    have h2:=Qy hn hm
    rw [show r+1=((Ai y.buses.length).filter fun b=>!pre.contains b).length by omega]
    exact h1
def C8 (N:Nat):Nat→Nat→List Int→List (List Int)
  | _,0,_=>[]
  | 0,_+1,_=>[]
  | m+1,r+1,s=>((s++[((N-(r+1):Nat):Int)])::C8 N m r (s++[((N-(r+1):Nat):Int)]))++C8 N (m+1) r s
theorem GD (N:Nat):∀ (r m:Nat)(s:List Int),(C8 N m r s).length+1≤2 ^ r
  | 0,m,s=>by cases m <;> simp [C8]
  | r+1,0,s=>by
    have:1≤2 ^ (r+1):=Nat.one_le_two_pow
    simpa [C8] using this
  | r+1,m+1,s=>by
    have h1:=GD N r m (s++[((N-(r+1):Nat):Int)])
    have h2:=GD N r (m+1) s
    rw [C8,List.length_append,List.length_cons,Nat.pow_succ]
    omega
theorem I7 (N:Nat):∀ (r m:Nat)(s l:List Int),l≠[]→l.Pairwise (· < ·)→(∀ b∈l,((N-r:Nat):Int)≤b∧b<N)→l.length≤m→r≤N→s++l∈C8 N m r s
  | 0,m,s,[],hl,_,_,_,_=>absurd rfl hl
  | 0,m,s,b::l,_,_,hm,_,_=>by have:=hm b (by simp); omega
  | r+1,m,s,[],hl,_,_,_,_=>absurd rfl hl
  | r+1,0,s,b::l,_,_,_,h,_=>by simp at h
  | r+1,m+1,s,b::l,_,hp,hm,hl,hr=>by
    rw [List.pairwise_cons] at hp
    have hb:=hm b (by simp)
    rw [C8,List.mem_append]
    by_cases h:b=((N-(r+1):Nat):Int)
    · left
      rw [← h]
      cases l with
      | nil=>exact List.mem_cons_self
      | cons c l' =>
        rw [show s++b::c::l' = (s++[b])++c::l' by simp]
        refine List.mem_cons_of_mem _ (I7 N r m (s++[b]) (c::l') (by simp) hp.2 (fun d hd=>?_) (by simp at hl ⊢; omega) (by omega))
        have h1:=hp.1 d hd
        have h2:=hm d (by simp at hd ⊢; exact .inr hd)
        omega
    · right
      refine I7 N r (m+1) s (b::l) (by simp) (List.pairwise_cons.2 hp) (fun d hd=>?_) hl (by omega)
      rcases List.mem_cons.1 hd with rfl | hd
      · omega
      · have h1:=hp.1 d hd
        have h2:=hm d (by simp [hd])
        omega
theorem H9 (N:Nat):∀ (r m:Nat)(s g:List Int),g∈C8 N m r s→r≤N→∃ l,g=s++l∧l.Pairwise (· < ·)∧(∀ b∈l,((N-r:Nat):Int)≤b∧b<N)∧l.length≤m
  | 0,m,s,g,h,_=>by cases m <;> simp [C8] at h
  | r+1,0,s,g,h,_=>by simp [C8] at h
  | r+1,m+1,s,g,h,hr=>by
    rw [C8,List.mem_append] at h
    rcases h with h | h
    · rcases List.mem_cons.1 h with rfl | h
      · exact⟨[((N-(r+1):Nat):Int)],rfl,List.pairwise_singleton _ _,fun b hb=>by simp at hb; subst hb; omega,by simp⟩
      · obtain⟨l,e,h1,h2,h3⟩:=H9 N r m _ g h (by omega)
        refine⟨((N-(r+1):Nat):Int)::l,by rw [e]; simp,List.pairwise_cons.2 ⟨fun b hb=>?_,h1⟩,fun b hb=>?_,by simp; omega⟩
        · have:=h2 b hb; omega
        · rcases List.mem_cons.1 hb with rfl | hb
          · omega
          · have:=h2 b hb; omega
    · obtain⟨l,e,h1,h2,h3⟩:=H9 N r (m+1) s g h (by omega)
      exact⟨l,e,h1,fun b hb=>by have:=h2 b hb; omega,h3⟩
def CC (y:Ag):List (List Int):=[]::C8 y.buses.length y.broken.toNat y.buses.length []
theorem GP {y:Ag} (hb:DI y.broken 0 2=true) {l:List Int}:l∈CC y↔E3 y l=true:=by
  have hb':=Bs.1 hb
  unfold CC
  rw [List.mem_cons]
  constructor
  · rintro(rfl | h)
    · exact Iw List.Pairwise.nil (by simp) (by simpa using hb'.1)
    · obtain⟨l',e,h1,h2,h3⟩:=H9 _ _ _ _ _ h (Nat.le_refl _)
      rw [List.nil_append] at e
      subst e
      refine Iw h1 (fun b hb=>?_) (by omega)
      have:=h2 b hb
      rw [Aw]
      omega
  · intro h
    obtain⟨h1,h2,h3⟩:=ES h
    by_cases hl:l=[]
    · exact .inl hl
    · refine .inr ?_
      have:=I7 y.buses.length y.buses.length y.broken.toNat [] l hl h1 (fun b hb=>?_) (by omega) (Nat.le_refl _)
      · simpa using this
      · have:=Aw.1 (h2 b hb)
        omega
def I8 (y:Ag) (lanes:List Int) (os bs:List (List Int)) (m:Int):Int:=os.foldl (fun m o=>bs.foldl (fun m b=>max m ((BY y lanes o b).length:Int)) m) m
theorem Mk (y:Ag) (lanes:List Int) (bs:List (List Int)):∀ (os:List (List Int))(m:Int),m≤I8 y lanes os bs m∧(∀ o∈os,∀ b∈bs,((BY y lanes o b).length:Int)≤I8 y lanes os bs m)∧(∀ k,m≤k→(∀ o∈os,∀ b∈bs,((BY y lanes o b).length:Int)≤k)→I8 y lanes os bs m≤k)
  | [],m=>⟨Int.le_refl _,by simp,fun k h _=>h⟩
  | o::r,m=>by
    obtain⟨q1,q2,q3⟩:=KD (fun b=>((BY y lanes o b).length:Int)) bs m
    obtain⟨h1,h2,h3⟩:=Mk y lanes bs r (bs.foldl (fun m b=>max m ((BY y lanes o b).length:Int)) m)
    have e:I8 y lanes (o::r) bs m=I8 y lanes r bs (bs.foldl (fun m b=>max m ((BY y lanes o b).length:Int)) m):=rfl
    rw [e]
    refine⟨by omega,fun c hc b hb=>?_,fun k hk hb=>h3 k (q3 k hk fun b hbb=>hb o (by simp) b hbb) fun c hc=>hb c (by simp [hc])⟩
    rcases List.mem_cons.1 hc with rfl | hc
    · have:=q2 b hb
      omega
    · exact h2 c hc b hb
theorem SJ {y:Ag} (hf:A6 y=0) {lanes:List Int} (hl:B0 y lanes=true):I8 y lanes (BX y y.buses.length []) (CC y) 0=AQ y lanes:=by
  obtain⟨v1,v0,v2,v3,v4,v5,v6⟩:=BI hf
  obtain⟨h1,h2,h3⟩:=Mk y lanes (CC y) (BX y y.buses.length []) 0
  obtain⟨l,q1,q2,q3,q4,q5⟩:=I4 hf hl
  have hO:=ER q3
  have a1:=h2 (Gg y lanes (A5 l)) (by have:=Mj y y.buses.length [] (Gg y lanes (A5 l)) hO.len q3; simpa using this) (GY y (A5 l)) ((GP v3).2 q4)
  have a2:=h3 (AQ y lanes) (H5 hf hl) fun o ho b hb=>Tw hf hl (H8 y _ _ o ho) ((GP v3).1 hb)
  omega
def GE (s x:Option (List Int×Int)):Option (List Int×Int) :=
  match x with
  | none=>s
  | some (b,m) =>
    match s with
    | none=>some (b,m)
    | some (c,k)=>if m<k then some (b,m) else some (c,k)
def EH (y:Ag):Nat→List Int→Option (List Int×Int)
  | 0,pre=>if B0 y pre then some (pre,AQ y pre) else none
  | r+1,pre=>(Ai y.room.length).foldl (fun s k=>GE s (EH y r (pre++[k]))) none
theorem I9 (f:List Int→Int):∀ (L:List (List Int))(s:Option (List Int×Int)),BU f L s=GE s (BU f L none)
  | [],s=>by cases s <;> rfl
  | l::L,s=>by
    have e:∀ s,BU f (l::L) s=BU f L (OF f s l):=fun s=>rfl
    rw [e,e,I9 f L (OF f s l),I9 f L (OF f none l)]
    cases hq:BU f L none with
    | none =>
      cases s with
      | none=>rfl
      | some p=>rfl
    | some q =>
      obtain⟨b,m⟩:=q
      cases s with
      | none =>
        have jn:∀ x,GE none x=x:=fun x=>by cases x <;> rfl
        exact(jn _).symm
      | some p =>
        obtain⟨c,k⟩:=p
        unfold GE OF
        simp only
        by_cases h1:f l<k
        · rw [if_pos h1]
          simp only
          by_cases h2:m<f l
          · rw [if_pos h2]; simp only; rw [if_pos (show m<k by omega)]
          · rw [if_neg h2]; simp only; rw [if_pos h1]
        · rw [if_neg h1]
          simp only
          by_cases h2:m<f l
          · rw [if_pos h2]
          · rw [if_neg h2]; simp only; rw [if_neg h1,if_neg (show ¬ m<k by omega)]
theorem Ml (f:List Int→Int) (g:Int→List (List Int)) (h:Int→Option (List Int×Int)):∀ (ks:List Int)(s:Option (List Int×Int)),(∀ k∈ks,h k=BU f (g k) none)→ks.foldl (fun s k=>GE s (h k)) s=BU f (ks.flatMap g) s
  | [],s,_=>rfl
  | k::ks,s,H=>by
    rw [List.foldl_cons,List.flatMap_cons,Ml f g h ks _ fun c hc=>H c (by simp [hc]),H k (by simp),← I9]
    unfold BU
    rw [List.foldl_append]
theorem KG (room:List Int):∀ (l pre r:List Int),BK room pre (l++r)=(BK room pre l && BK room (pre++l) r)
  | [],pre,r=>by simp [BK]
  | b::l,pre,r=>by
    rw [List.cons_append,BK,BK,KG room l (pre++[b]) r]
    simp [Bool.and_assoc]
theorem OJ {h:Int→Option (List Int×Int)}:∀ ks:List Int,(∀ k∈ks,h k=none)→ks.foldl (fun s k=>GE s (h k)) none=none
  | [],_=>rfl
  | k::ks,H=>by
    rw [List.foldl_cons,H k (by simp)]
    exact OJ ks fun c hc=>H c (by simp [hc])
theorem Nu (y:Ag):∀ (r:Nat)(pre:List Int),BK y.room [] pre=false→EH y r pre=none
  | 0,pre,h=>by
    unfold EH B0
    rw [h,Bool.and_false]
    rfl
  | r+1,pre,h=>by
    unfold EH
    exact OJ _ fun k _=>Nu y r _ (by rw [KG,h]; rfl)
theorem Qz (y:Ag):∀ (r:Nat)(pre:List Int),BK y.room [] pre=true→pre.length+r=y.buses.length→EH y r pre=BU (AQ y) (Ii y.room r pre) none
  | 0,pre,h,hl=>by
    unfold EH Ii B0
    rw [h,decide_eq_true (by omega)]
    rfl
  | r+1,pre,h,hl=>by
    unfold EH Ii
    refine Ml _ _ _ _ _ fun k hk=>?_
    have hk':=Aw.1 hk
    have hbt:DI k 0 ((y.room.length:Int)-1)=true:=by rw [Bs]; omega
    by_cases hq:(pre.count k:Int)<Bt y.room k
    · rw [if_pos hq]
      refine Qz y r _ ?_ (by simp; omega)
      rw [GA,h,hbt,List.nil_append,decide_eq_true hq]
      rfl
    · rw [if_neg hq]
      refine Nu y r _ ?_
      rw [GA,List.nil_append,decide_eq_false hq,Bool.and_false,Bool.and_false]
theorem RB (y:Ag):EH y y.buses.length []=H4 y:=Qz y _ [] rfl (by simp)
end Go.Proofs.YthcbemnflgjadaaGreat
namespace Go.Proofs.YthcbemnflgjadaaGreat
open Go Go.RowKit
theorem Ur:Fs 1000 Rx [0,0,1,1] [0,1,2,3] []=some ([0,2],0):=by
  unfold Fs
  refine(O3 (v:=(Tn,0)) (by kernel_rfl)).trans ?_
  show((Dg 1000 Tn).bind fun x25=>(C9 1000 x25).bind fun x26=>(Pa x26).bind fun u_80=>some (u_80,0))=_
  refine(O3 (v:=[[2],[0],[],[]]) (by kernel_rfl)).trans ?_
  refine(O3 (v:=[2,0]) (by kernel_rfl)).trans ?_
  exact O3 (Tm (by decide) (by decide) (by decide))
theorem OL:Dt 1000=some true:=by
  unfold Dt
  refine(O3 (v:=Rx) rfl).trans ?_
  refine(O3 Ur).trans ?_
  kernel_rfl
theorem Q0:∀ r:Nat,r≤5→OI r≤120
  | 0,_=>by decide
  | 1,_=>by decide
  | 2,_=>by decide
  | 3,_=>by decide
  | 4,_=>by decide
  | 5,_=>by decide
  | r+6,h=>by omega
def Q1 (y:Ag) (r:Nat):Prop:=∀ (n:Nat)(pre:List Int),60+20*r≤n→pre.length+r=y.buses.length→pre.Nodup→(∀ b∈pre,b∈Ai y.buses.length)→ref_Orders n y pre=some (BX y r pre)
theorem HA {y:Ag} (hy:y.buses.length≤5) (r:Nat) (H:Q1 y r) (pre:List Int) (hl:pre.length+(r+1)=y.buses.length) (hn:pre.Nodup) (hm:∀ b∈pre,b∈Ai y.buses.length):∀ (n i:Nat)(out:List (List Int)),70+20*r≤n+i→i≤y.buses.length→out.length≤120*i →
    Cy n y pre out (i:Int)=some (out++((Ai y.buses.length).drop i).flatMap fun b=>if pre.contains b then [] else BX y r (pre++[b]))
  | 0,i,out,h,hi,_=>by omega
  | n+1,i,out,h,hi,ho=>by
    rw [Cy,Bi]
    by_cases hx:i<y.buses.length
    · rw [I5 hx,List.flatMap_cons]
      simp only [hx,decide_true,cond_true]
      rw [MX n pre (i:Int) (by omega) (by omega),Option.bind_some]
      cases hq:pre.contains (i:Int) with
      | true =>
        rw [Bool.not_true,cond_false,CW i (by omega),if_pos rfl,List.nil_append]
        exact HA hy r H pre hl hn hm n (i+1) out (by omega) (by omega) (by omega)
      | false =>
        have hnn:(pre++[(i:Int)]).Nodup:=by
          rw [List.nodup_append]
          refine⟨hn,by simp,fun a ha c hc=>?_⟩
          simp at hc
          rintro rfl
          rw [hc] at ha
          simp at hq
          exact hq ha
        have hmm:∀ b∈pre++[(i:Int)],b∈Ai y.buses.length:=fun b hb=>by
          rcases List.mem_append.1 hb with hb | hb
          · exact hm b hb
          · simp at hb; rw [hb,Aw]; omega
        have hol:=I6 y r (pre++[(i:Int)]) hnn hmm (by simp; omega)
        have hfl:=Q0 r (by omega)
        rw [Bool.not_false,cond_true,CS _ _ (by simp; omega),List.nil_append,Option.bind_some,CS _ _ (by simp; omega),Option.bind_some,H n (pre++[(i:Int)]) (by omega) (by simp; omega) hnn hmm,Option.bind_some,CS _ _ (by omega),Option.bind_some,CW i (by omega)]
        rw [HA hy r H pre hl hn hm n (i+1) _ (by omega) (by omega) (by rw [List.length_append]; omega),if_neg (by simp),List.append_assoc]
    · have:i=y.buses.length:=by omega
      subst this
      rw [show(Ai y.buses.length).drop y.buses.length=[] from List.drop_eq_nil_of_le (by rw [AU]; exact Nat.le_refl _)]
      simp
theorem OM {y:Ag} (hy:y.buses.length≤5):∀ r,Q1 y r
  | 0,n,pre,hn,hl,hnd,hm=>by
    obtain⟨n,rfl⟩:∃ q,n=q+1:=⟨n-1,by omega⟩
    rw [ref_Orders,show(((pre.length:Nat):Int) == ((y.buses.length:Nat):Int))=true by rw [beq_iff_eq]; omega,cond_true,LZ n y (by omega) pre (by omega) (by omega),Option.bind_some]
    unfold BX
    cases Er y pre with
    | true=>rw [cond_true,CS _ _ (by simp; omega)]; rfl
    | false=>rfl
  | r+1,n,pre,hn,hl,hnd,hm=>by
    obtain⟨n,rfl⟩:∃ q,n=q+1:=⟨n-1,by omega⟩
    rw [ref_Orders,show(((pre.length:Nat):Int) == ((y.buses.length:Nat):Int))=false by
      cases hq:(((pre.length:Nat):Int) == ((y.buses.length:Nat):Int)) with
      | false=>rfl
      | true=>rw [beq_iff_eq] at hq; omega,cond_false]
    have h1:=HA hy r (OM hy r) pre hl hnd hm n 0 [] (by omega) (by omega) (by simp)
    rw [show((0:Nat):Int)=0 from rfl,List.drop_zero,List.nil_append] at h1
    rw [h1]
    rfl
theorem ON (n:Nat) {y:Ag} (hy:y.buses.length≤5) (hn:200≤n):ref_Orders n y []=some (BX y y.buses.length []) :=
  OM hy y.buses.length n [] (by omega) (by simp) List.nodup_nil (by simp)
theorem HB {y:Ag} (hy:y.buses.length≤8):∀ (r n i m:Nat)(s:List Int)(out:List (List Int)),2*r+1≤n→i+r=y.buses.length→(s.length:Int)+(m:Int)=y.broken→s.length≤i→out.length+2 ^ r≤1000000 →
    Cz n y s out (i:Int)=some (out++C8 y.buses.length m r s)
  | 0,n,i,m,s,out,hn,hi,hm,hs,ho=>by
    obtain⟨n,rfl⟩:∃ k,n=k+1:=⟨n-1,by omega⟩
    have:i=y.buses.length:=by omega
    rw [Cz,Bi,this]
    cases m <;> simp [C8]
  | r+1,n,i,m,s,out,hn,hi,hm,hs,ho=>by
    obtain⟨n,rfl⟩:∃ k,n=k+2:=⟨n-2,by omega⟩
    have hx:i<y.buses.length:=by omega
    have hp:2 ^ (r+1)=2 ^ r+2 ^ r:=by rw [Nat.pow_succ]; omega
    have hp1:1≤2 ^ r:=Nat.one_le_two_pow
    rw [Cz,Bi]
    cases m with
    | zero =>
      rw [decide_eq_true hx,cond_true,decide_eq_false (show ¬ (s.length:Int)<y.broken by omega)]
      simp [C8]
    | succ m =>
      have hb:((y.buses.length-(r+1):Nat):Int)=(i:Int):=by omega
      have hl:=GD y.buses.length r m (s++[(i:Int)])
      rw [decide_eq_true hx,cond_true,decide_eq_true (show(s.length:Int)<y.broken by omega),Option.bind_some,cond_true,CS _ _ (by simp; omega),List.nil_append,Option.bind_some,CS _ _ (by simp; omega),Option.bind_some,CW i (by omega)]
      have e1:ref_Breaks (n+1) y ((i+1:Nat):Int) (s++[(i:Int)])=some ((s++[(i:Int)])::C8 y.buses.length m r (s++[(i:Int)])):=by
        rw [ref_Breaks,CS _ _ (by simp; omega),List.nil_append,Option.bind_some,HB hy r n (i+1) m _ _ (by omega) (by omega) (by simp; omega) (by simp; omega) (by simp; omega)]
        rfl
      rw [e1,Option.bind_some,CS _ _ (by simp; omega),Option.bind_some,HB hy r (n+1) (i+1) (m+1) s _ (by omega) (by omega) (by omega) (by omega) (by simp; omega),C8,hb]
      simp
theorem OO (n:Nat) {y:Ag} (hy:y.buses.length≤8) (hb:DI y.broken 0 2=true) (hn:20≤n):ref_Breaks n y 0 []=some (CC y):=by
  have hb':=Bs.1 hb
  obtain⟨m,hm⟩:=Int.eq_ofNat_of_zero_le hb'.1
  obtain⟨n,rfl⟩:∃ k,n=k+1:=⟨n-1,by omega⟩
  have hp:2 ^ y.buses.length≤2 ^ 8:=Nat.pow_le_pow_right (by omega) hy
  have h1:=HB hy y.buses.length n 0 m [] [[]] (by omega) (by omega) (by simp; omega) (by simp) (by simp; omega)
  rw [show((0:Nat):Int)=0 from rfl] at h1
  rw [ref_Breaks,CS _ _ (by simp),List.nil_append,Option.bind_some,h1]
  unfold CC
  rw [hm]
  rfl
theorem Mm {y:Ag} {lanes:List Int} (os bs:List (List Int)) (i:Nat) (o:List Int) (ho:B3 os (i:Int)=some o) (hb:∀ b∈bs,FM y lanes o b=0∧b.length≤20) (hl:bs.length≤1000):∀ (n k:Nat)(m:Int),602+bs.length≤n+k→k≤bs.length →
    Dm n y lanes os bs (i:Int) (k:Int) m=some ((bs.drop k).foldl (fun m b=>max m ((BY y lanes o b).length:Int)) m)
  | 0,k,m,h,hk=>by omega
  | n+1,k,m,h,hk=>by
    rw [Dm,Bi]
    by_cases hx:k<bs.length
    · obtain⟨q1,q2⟩:=hb _ (List.getElem_mem hx)
      simp only [hx,decide_true,cond_true,ho,CA _ _ hx,Option.bind_some]
      rw [JC n q1 q2 (by omega),Option.bind_some,CW k (by omega),Mm os bs i o ho hb hl n (k+1) _ (by omega) (by omega),AR hx,List.foldl_cons]
      congr 2
      split <;> omega
    · have:k=bs.length:=by omega
      subst this
      simp
theorem KH {y:Ag} {lanes:List Int} (os bs:List (List Int)) (hb:∀ o∈os,∀ b∈bs,FM y lanes o b=0∧b.length≤20) (hl:bs.length≤32) (hol:os.length≤120):∀ (n i:Nat)(m:Int),756≤n+i→i≤os.length →
    Dn n y lanes os bs (i:Int) m=some (I8 y lanes (os.drop i) bs m)
  | 0,i,m,h,hi=>by omega
  | n+1,i,m,h,hi=>by
    rw [Dn,Bi]
    by_cases hx:i<os.length
    · have h2:=Mm (y:=y) (lanes:=lanes) os bs i os[i] (CA _ _ hx) (hb _ (List.getElem_mem hx)) (by omega) n 0 m (by omega) (by omega)
      rw [show((0:Nat):Int)=0 from rfl,List.drop_zero] at h2
      simp only [hx,decide_true,cond_true,h2,Option.bind_some]
      rw [CW i (by omega),KH os bs hb hl hol n (i+1) _ (by omega) (by omega),AR hx]
      rfl
    · have:i=os.length:=by omega
      subst this
      simp [I8]
theorem KI (n:Nat) {y:Ag} (hf:A6 y=0) (hy:y.buses.length≤5) {lanes:List Int} (hl:B0 y lanes=true) (hn:756≤n):FW n y lanes (BX y y.buses.length []) (CC y)=some (AQ y lanes):=by
  obtain⟨v1,v0,v2,v3,v4,v5,v6⟩:=BI hf
  have v3':=Bs.1 v3
  have ho:=I6 y y.buses.length [] List.nodup_nil (by simp) (by simp)
  have hof:=Q0 y.buses.length hy
  have hbl:=GD y.buses.length y.buses.length y.broken.toNat []
  have hp:2 ^ y.buses.length≤2 ^ 5:=Nat.pow_le_pow_right (by omega) hy
  have h1:=KH (y:=y) (lanes:=lanes) (BX y y.buses.length []) (CC y) (fun o hq b hb=>by
    have hb':=(GP v3).1 hb
    have hbs:=(ES hb').2.2
    refine⟨?_,by omega⟩
    unfold FM Ky
    rw [if_pos hf,hl,H8 y _ _ o hq,hb']
    rfl) (by unfold CC; rw [List.length_cons]; omega) (by omega) n 0 0 (by omega) (by omega)
  rw [show((0:Nat):Int)=0 from rfl,List.drop_zero,SJ hf hl] at h1
  unfold FW
  rw [h1]
  rfl
def Q2 (s:Option (List Int×Int)):List Int:=match s with | none=>[] | some p=>p.1
def F5 (s:Option (List Int×Int)):Int:=match s with | none=>-1 | some p=>p.2
def Us (s:Option (List Int×Int)):Prop:=∀ b m,s=some (b,m)→0≤m
theorem Us.join {s x:Option (List Int×Int)} (h1:Us s) (h2:Us x):Us (GE s x):=fun b m h=>by
  cases x with
  | none=>exact h1 b m h
  | some q =>
    obtain⟨c,k⟩:=q
    cases s with
    | none=>exact h2 b m h
    | some p =>
      obtain⟨d,j⟩:=p
      unfold GE at h
      simp only at h
      split at h
      · exact h2 b m h
      · exact h1 b m h
theorem Q3 {h:Int→Option (List Int×Int)}:∀ (ks:List Int)(s:Option (List Int×Int)),Us s→(∀ k∈ks,Us (h k))→Us (ks.foldl (fun s k=>GE s (h k)) s)
  | [],s,hs,_=>hs
  | k::ks,s,hs,H=>by
    rw [List.foldl_cons]
    exact Q3 ks _ (hs.join (H k (by simp))) fun c hc=>H c (by simp [hc])
theorem Q4 {y:Ag} (hf:A6 y=0):∀ (r:Nat)(pre:List Int),Us (EH y r pre)
  | 0,pre,b,m,h=>by
    unfold EH at h
    cases hl:B0 y pre with
    | true =>
      rw [hl,if_pos rfl] at h
      cases h
      exact H5 hf hl
    | false=>rw [hl,if_neg (by simp)] at h; cases h
  | r+1,pre,b,m,h=>by
    unfold EH at h
    exact Q3 _ none (fun _ _ h=>by cases h) (fun k _=>Q4 hf r _) b m h
def OP (y:Ag) (os bs:List (List Int)) (r:Nat):Prop:=∀ (n:Nat)(pre:List Int),760+10*r≤n→pre.length+r=y.buses.length→ref_Best n y os bs pre=some (Q2 (EH y r pre),F5 (EH y r pre))
theorem KJ {y:Ag} (hf:A6 y=0) (os bs:List (List Int)) (r:Nat) (H:OP y os bs r) (pre:List Int) (hl:pre.length+(r+1)=y.buses.length):∀ (n i:Nat)(s:Option (List Int×Int)),766+10*r≤n+i→i≤y.room.length→Us s →
    Ck n y os bs pre (i:Int) (F5 s) (Q2 s)=some (F5 (((Ai y.room.length).drop i).foldl (fun s k=>GE s (EH y r (pre++[k]))) s),Q2 (((Ai y.room.length).drop i).foldl (fun s k=>GE s (EH y r (pre++[k]))) s))
  | 0,i,s,h,hi,_=>by
    obtain⟨v1,_⟩:=BI hf
    omega
  | n+1,i,s,h,hi,hs=>by
    obtain⟨v1,v0,v2,v3,v4,v5,v6⟩:=BI hf
    rw [Ck,Bi]
    by_cases hx:i<y.room.length
    · rw [I5 hx,List.foldl_cons]
      have hok:=Q4 hf r (pre++[(i:Int)])
      have ih:=KJ hf os bs r H pre hl n (i+1) (GE s (EH y r (pre++[(i:Int)]))) (by omega) (by omega) (hs.join hok)
      simp only [hx,decide_true,cond_true]
      rw [CS _ _ (by simp; omega),List.nil_append,Option.bind_some,CS _ _ (by simp; omega),Option.bind_some,H n (pre++[(i:Int)]) (by omega) (by simp; omega),Option.bind_some,CW i (by omega)]
      rw [← ih]
      cases hq:EH y r (pre++[(i:Int)]) with
      | none=>rfl
      | some q =>
        obtain⟨b,m⟩:=q
        have hm:=hok b m hq
        rw [show decide (F5 (some (b,m))≥0)=true from decide_eq_true hm,cond_true]
        cases s with
        | none=>rfl
        | some p =>
          obtain⟨c,k⟩:=p
          have hk:=hs c k rfl
          rw [show decide (F5 (some (c,k))<0)=false from decide_eq_false (show ¬ k<0 by omega),cond_false]
          by_cases hlt:m<k
          · rw [show GE (some (c,k)) (some (b,m))=some (b,m) from if_pos hlt,show decide (F5 (some (b,m))<F5 (some (c,k)))=true from decide_eq_true hlt,cond_true]
          · rw [show GE (some (c,k)) (some (b,m))=some (c,k) from if_neg hlt,show decide (F5 (some (b,m))<F5 (some (c,k)))=false from decide_eq_false hlt,cond_false]
    · have:i=y.room.length:=by omega
      subst this
      rw [show(Ai y.room.length).drop y.room.length=[] from List.drop_eq_nil_of_le (by rw [AU]; exact Nat.le_refl _)]
      simp
theorem Nv {y:Ag} (hf:A6 y=0) (hy:y.buses.length≤5):∀ r,OP y (BX y y.buses.length []) (CC y) r
  | 0,n,pre,hn,hl=>by
    obtain⟨v1,v0,v2,v3,v4,v5,v6⟩:=BI hf
    obtain⟨n,rfl⟩:∃ q,n=q+1:=⟨n-1,by omega⟩
    rw [ref_Best,show(((pre.length:Nat):Int) == ((y.buses.length:Nat):Int))=true by rw [beq_iff_eq]; omega,cond_true,Kb n y v4 (by omega) pre (by omega) (by omega),Option.bind_some]
    unfold EH
    cases hq:B0 y pre with
    | false=>rfl
    | true =>
      rw [Bool.not_true,cond_false,KI n hf hy hq (by omega)]
      rfl
  | r+1,n,pre,hn,hl=>by
    obtain⟨n,rfl⟩:∃ q,n=q+1:=⟨n-1,by omega⟩
    rw [ref_Best,show(((pre.length:Nat):Int) == ((y.buses.length:Nat):Int))=false by
      cases hq:(((pre.length:Nat):Int) == ((y.buses.length:Nat):Int)) with
      | false=>rfl
      | true=>rw [beq_iff_eq] at hq; omega,cond_false]
    have h1:=KJ hf _ _ r (Nv hf hy r) pre hl n 0 none (by omega) (by omega) (fun _ _ h=>by cases h)
    rw [show((0:Nat):Int)=0 from rfl,List.drop_zero] at h1
    rw [show Ck n y (BX y y.buses.length []) (CC y) pre 0 (-1) []=_ from h1]
    rfl
theorem Q5 (n:Nat) {y:Ag} (hf:A6 y=0) (hy:y.buses.length≤5) (hn:820≤n):ref_Best n y (BX y y.buses.length []) (CC y) []=some (Q2 (H4 y),F5 (H4 y)):=by
  have:=Nv hf hy y.buses.length n [] (by omega) (by simp)
  rwa [RB] at this
def SK (y:Ag):Bool:=decide (y.room.length≤6) && decide (y.buses.length≤12) && (decide (A6 y≠0) || decide (y.buses.length≤5))
theorem T3 (n:Nat) (y:Ag) (hn:100≤n):Jw n y=some (SK y):=by
  unfold Jw SK
  rw [Uk,Option.bind_some]
  by_cases h1:y.room.length≤6
  · by_cases h2:y.buses.length≤12
    · rw [decide_eq_true h1,decide_eq_true h2,Bool.and_self,cond_true,MU n y (by omega) (by omega) (by omega) (by omega),Option.bind_some]
      by_cases hf:A6 y=0
      · rw [hf]
        simp only [bne_self_eq_false,cond_false,ne_eq,not_true_eq_false,decide_false,Bool.false_or,Bool.true_and]
        congr 1
        rw [decide_eq_decide]
        omega
      · have:(A6 y != 0)=true:=by simp [hf]
        rw [this,cond_true,decide_eq_true (show A6 y≠0 from hf)]
        rfl
    · rw [decide_eq_false h2,Bool.and_false,Bool.false_and]
      rfl
  · rw [decide_eq_false h1,Bool.false_and,Bool.false_and]
    rfl
theorem Sg {y:Ag} (h:SK y=true):y.room.length≤6∧y.buses.length≤12∧(A6 y≠0∨y.buses.length≤5):=by
  unfold SK at h
  simp only [Bool.and_eq_true,Bool.or_eq_true,decide_eq_true_eq] at h
  exact⟨h.1.1,h.1.2,h.2⟩
theorem Q6 (n:Nat) (y:Ag) (hr:y.room.length≤50) (hb:y.buses.length≤50) (hn:200≤n):FV n y=some (A6 y):=by
  unfold FV
  rw [MU n y (by omega) (by omega) (by omega) (by omega)]
  rfl
theorem Nw (y:Ag) (lanes:List Int):E5 1000 y lanes=some true:=by
  unfold E5
  rw [T3 1000 y (by omega)]
  simp only [Option.bind_some,OL]
  cases hfew:SK y with
  | false=>rfl
  | true =>
    obtain⟨f1,f2,f3⟩:=Sg hfew
    by_cases hl:lanes.length≤15
    rotate_left
    · rw [Vk lanes hl]; rfl
    rw [Vx lanes hl]
    simp only [Bool.not_true,cond_false,Option.bind_some]
    rw [LR 1000 y (by omega) (by omega) (by omega),Option.bind_some,LQ 1000 lanes (by omega),Option.bind_some,Q6 1000 y (by omega) (by omega) (by omega)]
    by_cases hf:A6 y=0
    rotate_left
    · have hz:(A6 y == 0)=false:=by simp [hf]
      have hn:(A6 y != 0)=true:=by simp [hf]
      rw [SG 1000 hf lanes (by omega) (by omega) (by omega)]
      simp only [Option.bind_some,hz,cond_false,hn,cond_true,beq_self_eq_true]
      rfl
    obtain⟨v1,v0,v2,v3,v4,v5,v6⟩:=BI hf
    have hy:y.buses.length≤5:=by
      rcases f3 with h | h
      · exact absurd hf h
      · exact h
    cases hq:B0 y lanes with
    | false =>
      rw [RA 1000 hf hq (by omega) (by omega),hf]
      simp only [Option.bind_some,beq_self_eq_true,cond_true,Kb 1000 y v4 (by omega) lanes (by omega) (by omega),hq]
      rfl
    | true =>
      obtain⟨o,b,e1,e2,e3,e4⟩:=Tz 1000 hf hq (by omega)
      have hO:=ER e2
      have hb3:=(ES e3).2.2
      have v3':=Bs.1 v3
      have ha:FM y lanes o b=0:=by
        unfold FM Ky
        rw [if_pos hf,hq,e2,e3]
        rfl
      rw [e1,hf]
      simp only [Option.bind_some,beq_self_eq_true,cond_true,Kb 1000 y v4 (by omega) lanes (by omega) (by omega),hq,Bool.not_true,cond_false,bne_self_eq_false,LZ 1000 y (by omega) o (by rw [hO.len]; omega) (by rw [hO.len]; omega),e2,Qc 1000 y (by omega) b (by omega) (by omega),e3,JC 1000 ha (by omega) (by omega),e4,
        ON 1000 hy (by omega),OO 1000 v2 v3 (by omega),KI 1000 hf hy hq (by omega)]
theorem Oo (y:Ag):Fk 1000 y=some true:=by
  unfold Fk
  rw [T3 1000 y (by omega)]
  simp only [Option.bind_some,OL]
  cases hfew:SK y with
  | false=>rfl
  | true =>
    obtain⟨f1,f2,f3⟩:=Sg hfew
    rw [MU 1000 y (by omega) (by omega) (by omega) (by omega)]
    simp only [Bool.not_true,cond_false,Option.bind_some]
    obtain⟨c,hc⟩:∃ c:Bool,((bif (A6 y == 0) then(bif (((y.buses.length:Nat):Int) == 5) then(bif decide (y.broken>1) then some true else some (decide (((y.room.length:Nat):Int)>2))) else some false) else some false):Option Bool)=some c:=by
      cases A6 y == 0 <;> cases ((y.buses.length:Nat):Int) == 5 <;> cases decide (y.broken>1) <;> exact⟨_,rfl⟩
    rw [hc,Option.bind_some]
    cases c with
    | true=>rfl
    | false =>
      rw [cond_false,LR 1000 y (by omega) (by omega) (by omega),Option.bind_some,Q6 1000 y (by omega) (by omega) (by omega)]
      by_cases hf:A6 y=0
      rotate_left
      · have hz:(A6 y == 0)=false:=by simp [hf]
        have hn:(A6 y != 0)=true:=by simp [hf]
        rw [T2 1000 hf (by omega) (by omega) (by omega)]
        simp only [Option.bind_some,hz,cond_false,hn,cond_true,beq_self_eq_true]
        rfl
      obtain⟨v1,v0,v2,v3,v4,v5,v6⟩:=BI hf
      have hy:y.buses.length≤5:=by
        rcases f3 with h | h
        · exact absurd hf h
        · exact h
      rw [Uq 1000 hf (by omega),hf]
      simp only [Option.bind_some,beq_self_eq_true,cond_true,ON 1000 hy (by omega),OO 1000 v2 v3 (by omega),Q5 1000 hf hy (by omega)]
      cases hb:H4 y with
      | none=>rfl
      | some p =>
        obtain⟨b,m⟩:=p
        obtain⟨q1,q2,q3⟩:=Qx hb
        have h0:=H5 hf q1
        have hbl:=(Gc q1).1
        rw [show decide (F5 (some (b,m))<0)=false from decide_eq_false (show ¬ m<0 by omega)]
        simp only [cond_false,Option.bind_some,bne_self_eq_false,beq_self_eq_true,cond_true,Q2,F5]
        rw [S8 1000 b (by omega) (by omega)]
        rfl
end Go.Proofs.YthcbemnflgjadaaGreat
