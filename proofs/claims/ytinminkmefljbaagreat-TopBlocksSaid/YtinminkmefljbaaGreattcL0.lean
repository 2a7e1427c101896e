/- The plain law. -/
import Derived.Test.YtinminkmefljbaaGreattcP0
import Derived.KernelRfl
set_option linter.all false
namespace Go.Proofs.YtinminkmefljbaaGreat
open Go Go.RowKit
theorem IS {x:Int} (h0 : -9223372036854775808≤x) (h1:x≤9223372036854775807):IntKind.i64.wrap x=x:=by
  simp [IntKind.wrap,IntKind.bits,IntKind.signed]; omega
theorem Da (i:Nat) (h:i<1000000000000):IntKind.i64.wrap ((i:Int)+1)=((i+1:Nat):Int):=by
  rw [IS (by omega) (by omega)]; omega
theorem QD {α:Type} (xs:List α) (i:Nat):Bm xs (i:Int)=xs[i]?:=rfl
theorem BX {α:Type} (xs:List α) (i:Nat) (h:i<xs.length):Bm xs (i:Int)=some xs[i]:=by rw [QD,Yf h]
theorem Ee {α:Type} (xs ys:List α) (h:xs.length+ys.length≤1000000000):Ih xs ys=some (xs++ys):=by
  unfold Ih; rw [if_pos (by simpa using h)]
theorem Xl {α:Type} (xs:List α) (i:Nat) (y:α) (h:i<xs.length):upd xs (i:Int) y=some (xs.set i y):=by
  show(if i<xs.length then some (xs.set i y) else none)=_
  rw [if_pos h]
theorem XI {α:Type} (n:Nat) (x:α) (h:n≤1000000000):mk (n:Int) x=some (List.replicate n x):=by
  unfold mk; rw [if_pos (by omega)]; rfl
theorem BG {α:Type} {xs:List α} {i:Nat} (h:i<xs.length):xs.drop i=xs[i]::xs.drop (i+1):=List.drop_eq_getElem_cons h
theorem Bz {α:Type} (xs:List α) (i:Nat):decide ((i:Int)<((xs.length:Nat):Int))=decide (i<xs.length):=by
  by_cases h:i<xs.length <;> simp [h]
theorem HH {K α:Type} [DecidableEq K] (k j:K) (x:α):∀ l:List (K×α),DA (Hp l k x) j=if k=j then some x else DA l j
  | []=>by simp [Hp,DA]
  | p::r=>by
    unfold Hp
    by_cases h:p.1=k
    · rw [if_pos h]
      simp only [DA]
      by_cases hj:k=j
      · simp [hj]
      simp [hj,h]
    rw [if_neg h,DA,DA,HH k j x r]
    by_cases hj:p.1=j
    · have:k≠j:=fun e=>h (by rw [hj,e])
      simp [hj,this]
    simp [hj]
theorem QE (l:List Int):(Gq l).Pairwise (·≤·):=by
  have:=List.pairwise_mergeSort (le:=fun x y:Int=>decide (x≤y)) (fun a b c h1 h2=>by simp at *; omega) (fun a b=>by simp; omega) l
  exact this.imp fun h=>by simpa using h
theorem Vj {l l':List Int} (hp:l.Perm l') (hs:l'.Pairwise (·≤·)):Gq l=l' :=
  List.Perm.eq_of_pairwise (le:=(·≤·)) (fun _ _ _ _ h1 h2=>Int.le_antisymm h1 h2) (QE l) hs ((List.mergeSort_perm l _).trans hp)
theorem Vk {l l':List Int} (hp:l.Perm l') (hs:l'.Pairwise (·≤·)) (hl:l.length≤1000000):Qo l=some l':=by
  unfold Qo
  rw [if_pos (by omega),Vj hp hs]
theorem R6 (n:Nat) (l:List Int) (h:l.length≤1000):Je n l=some l:=by
  unfold Je
  simp [Ee [] l (by simp; omega)]
theorem Lp (n:Nat) (l:List Int) (h:l.length≤1000):BB n l=some l:=by
  unfold BB
  simp [Ee [] l (by simp; omega)]
theorem IU (y:Am) (hb:y.lG.length≤1000):∀ (n i:Nat)(acc:List Cn),y.lG.length<n+i→i≤y.lG.length→acc.length=i→Es n y acc (i:Int)=some (acc++y.lG.drop i)
  | 0,i,acc,h,hi,_=>by omega
  | n+1,i,acc,h,hi,ha=>by
    rw [Es,Bz]
    by_cases hx:i<y.lG.length
    · simp only [hx,decide_true,cond_true,BX _ _ hx,Yg]
      rw [Ee _ _ (by simp; omega)]
      simp only [Yg]
      rw [Da i (by omega),IU y hb n (i+1) _ (by omega) (by omega) (by simp; omega),BG hx,List.append_assoc]
      rfl
    have:i=y.lG.length:=by omega
    simp [this]
theorem R7 (n:Nat) (y:Am) (hr:y.room.length≤1000) (hb:y.lG.length≤1000) (hn:y.lG.length<n):Gl n y=some y:=by
  unfold Gl
  have e1:=IU y hb n 0 [] (by omega) (by omega) rfl
  rw [show((0:Nat):Int)=0 from rfl] at e1
  rw [R6 n _ hr,Yg,e1]
  simp
def Ei (x lo hi:Int):Bool:=decide (lo≤x) && decide (x≤hi)
theorem AE {x lo hi:Int}:Ei x lo hi=true↔lo≤x∧x≤hi:=by simp [Ei]
theorem M6 (n:Nat) (x lo hi:Int):Jf n x lo hi=some (Ei x lo hi):=by
  unfold Jf Ei
  rw [show decide (x≥lo)=decide (lo≤x) from rfl]
  cases decide (lo≤x) <;> rfl
theorem HI (n:Nat) (x lo hi:Int):CM n x lo hi=some (Ei x lo hi):=by
  unfold CM Ei
  cases decide (lo≤x) <;> rfl
def EQ (b:Cn):Bool:=Ei b.lo 0 b.hi && (decide (b.hi≤2000) && Ei b.turn 0 2000)
theorem Vl (n:Nat) (b:Cn):C2 n b=some (EQ b):=by
  unfold C2 EQ
  simp only [HI,Yg]
  cases Ei b.lo 0 b.hi <;> cases decide (b.hi≤2000) <;> rfl
theorem Nl (s:List Int) (f:Int→Option Bool) (g:Int→Bool) (hf:∀ c∈s,f c=some (g c)) (hs:s.length≤1000000):∀ (n i:Nat),s.length<n+i→i≤s.length →
    ∃ r,AF n s f (i:Int)=some r∧(if (s.drop i).any g then ∃ k:Int,0≤k∧r=Ex.ret k else r=Ex.go ())
  | 0,i,h,hi=>by omega
  | n+1,i,h,hi=>by
    rw [AF,Bz]
    by_cases hx:i<s.length
    · simp only [hx,decide_true,cond_true,BX _ _ hx,Yg,hf _ (Yh hx)]
      rw [Da i (by omega),BG hx,List.any_cons]
      cases hv:g s[i] with
      | true=>exact⟨Ex.ret (i:Int),rfl,⟨i,by omega,rfl⟩⟩
      | false =>
        obtain⟨r,h1,h2⟩:=Nl s f g hf hs n (i+1) (by omega) (by omega)
        exact⟨r,h1,by rw [Yi]; exact h2⟩
    have:i=s.length:=by omega
    subst this
    exact⟨Ex.go (),by simp,by simp⟩
theorem SR (n:Nat) (l:List Int) (f:Int→Option Bool) (g:Int→Bool) (hf:∀ c∈l,f c=some (g c)) (h:l.length<n) (hs:l.length≤1000000):E7 n l f=some (l.all g):=by
  unfold E7 Bf BQ
  obtain⟨r,h1,h2⟩:=Nl l (fun y0=>CS n y0 f) (fun c=>!g c) (fun c hc=>by unfold CS; rw [hf c hc]; rfl) hs n 0 (by omega) (by omega)
  rw [show((0:Nat):Int)=0 from rfl] at h1
  rw [h1]
  simp only [Yj] at h2
  have hn:l.all g=!l.any fun c=>!g c:=by
    rw [List.not_any_eq_all_not]; simp
  rw [hn]
  split at h2
  · rename_i hm
    obtain⟨k,hk,rfl⟩:=h2
    simp [Ex.bind,hm,hk]
  rename_i hm
  subst h2
  simp [Ex.bind,hm]
theorem Nm (s:List Cn) (f:Cn→Option Bool) (g:Cn→Bool) (hf:∀ c∈s,f c=some (g c)) (hs:s.length≤1000000):∀ (n i:Nat),s.length<n+i→i≤s.length →
    ∃ r,AA n s f (i:Int)=some r∧(if (s.drop i).any g then ∃ k:Int,0≤k∧r=Ex.ret k else r=Ex.go ())
  | 0,i,h,hi=>by omega
  | n+1,i,h,hi=>by
    rw [AA,Bz]
    by_cases hx:i<s.length
    · simp only [hx,decide_true,cond_true,BX _ _ hx,Yg,hf _ (Yh hx)]
      rw [Da i (by omega),BG hx,List.any_cons]
      cases hv:g s[i] with
      | true=>exact⟨Ex.ret (i:Int),rfl,⟨i,by omega,rfl⟩⟩
      | false =>
        obtain⟨r,h1,h2⟩:=Nm s f g hf hs n (i+1) (by omega) (by omega)
        exact⟨r,h1,by rw [Yi]; exact h2⟩
    have:i=s.length:=by omega
    subst this
    exact⟨Ex.go (),by simp,by simp⟩
theorem SS (n:Nat) (l:List Cn) (f:Cn→Option Bool) (g:Cn→Bool) (hf:∀ c∈l,f c=some (g c)) (h:l.length<n) (hs:l.length≤1000000):CC n l f=some (l.all g):=by
  unfold CC Bg Bw
  obtain⟨r,h1,h2⟩:=Nm l (fun y0=>BJ n y0 f) (fun c=>!g c) (fun c hc=>by unfold BJ; rw [hf c hc]; rfl) hs n 0 (by omega) (by omega)
  rw [show((0:Nat):Int)=0 from rfl] at h1
  rw [h1]
  simp only [Yj] at h2
  have hn:l.all g=!l.any fun c=>!g c:=by
    rw [List.not_any_eq_all_not]; simp
  rw [hn]
  split at h2
  · rename_i hm
    obtain⟨k,hk,rfl⟩:=h2
    simp [Ex.bind,hm,hk]
  rename_i hm
  subst h2
  simp [Ex.bind,hm]
def GR:List Int→List Int→Bool
  | _,[]=>false
  | s,t::r=>s.contains t || GR (s++[t]) r
theorem Nn (y:Am) (hb:y.lG.length≤1000):∀ (n i:Nat)(m:List (Int×Bool))(s:List Int),y.lG.length<n+i→i≤y.lG.length→(∀ t,(ES m t false).1=s.contains t) →
    ∃ r,BU n y (i:Int) m=some r∧(if GR s ((y.lG.drop i).map (·.turn)) then r=Ex.ret 1 else ∃ m',r=Ex.go m')
  | 0,i,m,s,h,hi,_=>by omega
  | n+1,i,m,s,h,hi,hm=>by
    rw [BU,Bz]
    by_cases hx:i<y.lG.length
    · simp only [hx,decide_true,cond_true,BX _ _ hx,Yg,hm]
      rw [Da i (by omega),BG hx,List.map_cons,GR]
      cases hv:s.contains y.lG[i].turn with
      | true=>exact⟨_,rfl,rfl⟩
      | false =>
        simp only [cond_false,Yi]
        refine Nn y hb n (i+1) _ (s++[y.lG[i].turn]) (by omega) (by omega) fun t=>?_
        have:=hm t
        unfold ES at this ⊢
        rw [HH]
        by_cases ht:y.lG[i].turn=t
        · simp [ht]
        rw [if_neg ht,this]
        simp [Ne.symm ht]
    have:i=y.lG.length:=by omega
    subst this
    exact⟨Ex.go m,by simp,by simp [GR]⟩
def Cr (y:Am):Int :=
  if 3<y.room.length∨8<y.lG.length then 3
  else if y.room.length=0∨Ei y.broken 0 2=false∨(y.room.all fun r=>Ei r 0 8)=false∨y.lG.all EQ=false∨GR [] (y.lG.map (·.turn))=true then 1 else 0
theorem Ov (n:Nat) (y:Am) (hr:y.room.length≤1000) (hb:y.lG.length≤1000) (h1:y.room.length<n) (h2:y.lG.length<n):CE n y=some (Cr y):=by
  unfold CE Cr
  have e1:E7 n y.room (fun y0=>Ch n y0)=some (y.room.all fun r=>Ei r 0 8):=SR n _ _ _ (fun c _=>by unfold Ch; rw [HI]; rfl) h1 (by omega)
  have e2:CC n y.lG (fun y0=>C2 n y0)=some (y.lG.all EQ):=SS n _ _ _ (fun c _=>Vl n c) h2 (by omega)
  obtain⟨r,e3,e4⟩:=Nn y hb n 0 [] [] (by omega) (by omega) (fun t=>by simp [ES,DA])
  rw [show((0:Nat):Int)=0 from rfl] at e3
  rw [Yj] at e4
  have c1:decide (((y.room.length:Nat):Int)>3)=decide (3<y.room.length):=by by_cases h:3<y.room.length <;> simp [h] <;> omega
  have c2:decide (((y.lG.length:Nat):Int)>8)=decide (8<y.lG.length):=by by_cases h:8<y.lG.length <;> simp [h] <;> omega
  have c3:(((y.room.length:Nat):Int) == 0)=decide (y.room.length=0):=by by_cases h:y.room.length=0 <;> simp [h]
  rw [c1,c2,c3]
  by_cases a1:3<y.room.length
  · simp [a1]
  by_cases a2:8<y.lG.length
  · simp [a1,a2]
  simp only [a1,a2,decide_false,cond_false,Yg,or_self,if_false]
  by_cases a3:y.room.length=0
  · simp [a3]
  simp only [a3,decide_false,cond_false,HI,Yg,false_or,e1,e2]
  cases a4:Ei y.broken 0 2 with
  | false=>simp
  | true =>
  cases a5:(y.room.all fun r=>Ei r 0 8) with
  | false=>simp
  | true =>
  cases a6:y.lG.all EQ with
  | false=>simp
  | true =>
  simp only [Yk,cond_false,Yg,e3]
  cases a7:GR [] (y.lG.map (·.turn)) with
  | true =>
    rw [a7] at e4
    simp only [if_true] at e4
    subst e4
    simp [Ex.bind]
  | false =>
    rw [a7] at e4
    obtain⟨m',rfl⟩:=e4
    simp [Ex.bind]
theorem No (y:Am) (hb:y.room.length≤1000):∀ (n i:Nat),y.room.length<n+i→i≤y.room.length →
    DD n y (i:Int)=some (if (y.room.drop i).all (fun r=>Ei r 0 8) then Ex.go () else Ex.ret 1)
  | 0,i,h,hi=>by omega
  | n+1,i,h,hi=>by
    rw [DD,Bz]
    by_cases hx:i<y.room.length
    · simp only [hx,decide_true,cond_true,BX _ _ hx,Yg,M6]
      rw [Da i (by omega),BG hx,List.all_cons]
      cases hv:Ei y.room[i] 0 8 with
      | false=>simp
      | true=>simpa using No y hb n (i+1) (by omega) (by omega)
    have:i=y.room.length:=by omega
    subst this
    simp
theorem Np (y:Am) (hb:y.lG.length≤1000) (k:Nat) (b:Cn) (hk:k≤y.lG.length):∀ (n i:Nat),k<n+i→i≤k →
    DE n y (k:Int) b (i:Int)=some (if (((y.lG.take k).drop i).map (·.turn)).contains b.turn then Ex.ret 1 else Ex.go ())
  | 0,i,h,hi=>by omega
  | n+1,i,h,hi=>by
    rw [DE]
    by_cases hx:i<k
    · have hx':i<(y.lG.take k).length:=by rw [Yl]; omega
      have hl:i<y.lG.length:=by omega
      simp only [show decide ((i:Int)<(k:Int))=true by simp; omega,cond_true,BX _ _ hl,Yg]
      rw [Da i (by omega),BG hx',List.map_cons,List.contains_cons,List.getElem_take]
      cases hv:(y.lG[i].turn == b.turn) with
      | true =>
        have:(b.turn == y.lG[i].turn)=true:=by rw [beq_iff_eq] at hv ⊢; exact hv.symm
        simp [this]
      | false =>
        have:(b.turn == y.lG[i].turn)=false:=by
          cases hq:(b.turn == y.lG[i].turn) with
          | false=>rfl
          | true=>rw [beq_iff_eq] at hq; rw [hq] at hv; simp at hv
        rw [this,Yi]
        simpa using Np y hb k b hk n (i+1) (by omega) (by omega)
    have:i=k:=by omega
    subst this
    simp
theorem Nq (y:Am) (hb:y.lG.length≤500):∀ (n i:Nat),2*y.lG.length<n+i→i≤y.lG.length →
    DF n y (i:Int)=some (if (y.lG.drop i).all EQ=false∨GR ((y.lG.take i).map (·.turn)) ((y.lG.drop i).map (·.turn))=true then Ex.ret 1 else Ex.go ())
  | 0,i,h,hi=>by omega
  | n+1,i,h,hi=>by
    rw [DF,Bz]
    by_cases hx:i<y.lG.length
    · simp only [hx,decide_true,cond_true,BX _ _ hx,Yg,M6]
      have e1:=Np y (by omega) i y.lG[i] (by omega) n 0 (by omega) (by omega)
      rw [show((0:Nat):Int)=0 from rfl] at e1
      have e2:=Nq y hb n (i+1) (by omega) (by omega)
      rw [Da i (by omega),e1,e2,BG hx,List.all_cons,List.map_cons,GR,Yj]
      have e3:(y.lG.take (i+1)).map (·.turn)=(y.lG.take i).map (·.turn)++[y.lG[i].turn]:=by
        rw [Ym hx,List.map_append]; rfl
      rw [e3]
      have e4:decide (y.lG[i].hi>2000)=!decide (y.lG[i].hi≤2000):=by
        by_cases hq:y.lG[i].hi≤2000
        · simp [hq,Int.not_lt.2 hq]
        simp [hq]; omega
      rw [e4]
      unfold EQ
      cases Ei y.lG[i].lo 0 y.lG[i].hi <;> cases decide (y.lG[i].hi≤2000) <;> cases Ei y.lG[i].turn 0 2000 <;> cases ((y.lG.take i).map (·.turn)).contains y.lG[i].turn <;> simp [Ex.bind,EQ]
    have:i=y.lG.length:=by omega
    subst this
    simp [GR]
theorem Vm (n:Nat) (y:Am) (hr:y.room.length≤100) (hb:y.lG.length≤100) (h1:y.room.length<n) (h2:2*y.lG.length<n):FT n y=some (Cr y):=by
  unfold FT Cr
  have e1:=No y (by omega) n 0 (by omega) (by omega)
  have e2:=Nq y (by omega) n 0 (by omega) (by omega)
  rw [show((0:Nat):Int)=0 from rfl] at e1 e2
  simp only [Yj,List.take_zero,List.map_nil] at e1 e2
  have c1:decide (((y.room.length:Nat):Int)>3)=decide (3<y.room.length):=by by_cases h:3<y.room.length <;> simp [h] <;> omega
  have c2:decide (((y.lG.length:Nat):Int)>8)=decide (8<y.lG.length):=by by_cases h:8<y.lG.length <;> simp [h] <;> omega
  have c3:decide (((y.room.length:Nat):Int)<1)=decide (y.room.length=0):=by by_cases h:y.room.length=0 <;> simp [h] <;> omega
  rw [c1,c2,c3,e1,e2]
  by_cases a1:3<y.room.length
  · simp [a1]
  by_cases a2:8<y.lG.length
  · simp [a1,a2]
  simp only [a1,a2,decide_false,cond_false,Yg,or_self,if_false]
  by_cases a3:y.room.length=0
  · simp [a3]
  simp only [a3,decide_false,cond_false,M6,Yg,false_or]
  cases a4:Ei y.broken 0 2 <;> cases a5:(y.room.all fun r=>Ei r 0 8) <;> cases a6:y.lG.all EQ <;> cases a7:GR [] (y.lG.map (·.turn)) <;> simp [Ex.bind]
open Go Go.RowKit
def Aw (y:Am) (b:Int):Cn:=y.lG.getD b.toNat default
theorem Lq (y:Am) {b:Int} (h:Ei b 0 ((y.lG.length:Int)-1)=true):Bm y.lG b=some (Aw y b):=by
  rw [AE] at h
  obtain⟨k,rfl⟩:=Yn h.1
  rw [BX _ _ (by omega)]
  unfold Aw
  simp [Yo,Yf (show k<y.lG.length by omega)]
theorem Lr {y:Am} (hv:y.lG.all EQ=true) {b:Int} (h:Ei b 0 ((y.lG.length:Int)-1)=true):0≤(Aw y b).lo∧(Aw y b).lo≤(Aw y b).hi∧(Aw y b).hi≤2000∧0≤(Aw y b).turn∧(Aw y b).turn≤2000:=by
  rw [AE] at h
  have hl:b.toNat<y.lG.length:=by omega
  have:EQ (Aw y b)=true:=by
    unfold Aw
    rw [Yo,Yf hl]
    exact List.all_eq_true.1 hv _ (Yh hl)
  unfold EQ at this
  simp only [Yp,AE,decide_eq_true_eq] at this
  omega
theorem Nr (n:Nat) (y:Am) (b:Int) (h:y.lG.length≤1000):DU n y b=some (Ei b 0 ((y.lG.length:Int)-1)):=by
  unfold DU
  rw [IS (by omega) (by omega),HI]
  rfl
theorem Oa (n:Nat) (a b:Int):CN (n+2) [a,b]=some (max a b):=by
  have e1:IntKind.i64.wrap 2=2:=by decide
  by_cases h:a<b
  · have:max a b=b:=by omega
    simp [CN,CT,B5,Bm,e1,h,this]
  have:max a b=a:=by omega
  simp [CN,CT,B5,Bm,e1,h,this]
theorem Ls {b:Int} (h0:0≤b) (h8:b<8):LZ 8 b=some ():=by
  unfold LZ; rw [if_pos ⟨h0,h8⟩]
theorem PX {b:Int} (h0:0≤b) (h8:b<8):b=0∨b=1∨b=2∨b=3∨b=4∨b=5∨b=6∨b=7:=by omega
def A2 (f:Int→Bool):A1:=⟨f 0,f 1,f 2,f 3,f 4,f 5,f 6,f 7⟩
def HJ (f:Int→Int):A0:=⟨f 0,f 1,f 2,f 3,f 4,f 5,f 6,f 7⟩
theorem Lt (f:Int→Bool) {b:Int} (h0:0≤b) (h8:b<8):Bm (A2 f).toL b=some (f b):=by
  rcases PX h0 h8 with h | h | h | h | h | h | h | h <;> subst h <;> rfl
theorem Ob (f:Int→Int) {b:Int} (h0:0≤b) (h8:b<8):Bm (HJ f).toL b=some (f b):=by
  rcases PX h0 h8 with h | h | h | h | h | h | h | h <;> subst h <;> rfl
theorem HK (f:Int→Bool) {b:Int} (h0:0≤b) (h8:b<8) (v:Bool):A1.setI (A2 f) b v=some (A2 fun x=>if x=b then v else f x):=by
  rcases PX h0 h8 with h | h | h | h | h | h | h | h <;> subst h <;> rfl
theorem Wn (f:Int→Int) {b:Int} (h0:0≤b) (h8:b<8) (v:Int):A0.setI (HJ f) b v=some (HJ fun x=>if x=b then v else f x):=by
  rcases PX h0 h8 with h | h | h | h | h | h | h | h <;> subst h <;> rfl
theorem Dg {f g:Int→Bool} (h:∀ b,f b=g b):A2 f=A2 g:=by rw [funext h]
theorem R8 {f g:Int→Int} (h:∀ b,f b=g b):HJ f=HJ g:=by rw [funext h]
def Bc (l:List Int) (b:Int):Bool:=l.contains b
def El (l:List Int) (b:Int):Int:=if l.contains b then(l.idxOf b:Int) else 0
theorem GN (l:List Int) (c b:Int):Bc (l++[c]) b=if b=c then true else Bc l b:=by
  unfold Bc
  by_cases h:b=c
  · subst h; simp
  simp [h]
theorem Ux (l:List Int) (c:Int) (hc:l.contains c=false) (b:Int):El (l++[c]) b=if b=c then(l.length:Int) else El l b:=by
  unfold El
  by_cases h:b=c
  · subst h
    have hm:b ∉ l:=by simpa using hc
    simp [List.idxOf_append,hm]
  by_cases hb:b∈l
  · simp [h,hb,List.idxOf_append]
  simp [h,hb]
def IV (y:Am) (l:List Int):Int:=l.foldl (fun m b=>max m (Aw y b).lo) 0
theorem ST (y:Am) (l:List Int) (b:Int):IV y (l++[b])=max (IV y l) (Aw y b).lo:=by
  unfold IV; rw [List.foldl_append]; rfl
theorem R9 (y:Am) (x:Int) (hx:0≤x) (l:List Int):decide (x<IV y l)=l.any fun k=>decide (x<(Aw y k).lo):=by
  have key:∀ (l:List Int)(m:Int),decide (x<l.foldl (fun m b=>max m (Aw y b).lo) m)=(decide (x<m) || l.any fun k=>decide (x<(Aw y k).lo)):=by
    intro l
    induction l with
    | nil=>intro m; exact(Bool.or_false _).symm
    | cons a r ih =>
      intro m
      rw [Yq,ih,List.any_cons,← Bool.or_assoc]
      congr 1
      by_cases h1:x<m <;> by_cases h2:x<(Aw y a).lo <;> simp [h1,h2] <;> omega
  unfold IV
  rw [key]
  simp [Int.not_lt.2 hx]
def RA (y:Am) (pre:List Int) (b:Int):Bool:=Ei b 0 ((y.lG.length:Int)-1) && !(pre.contains b || pre.any fun k=>decide ((Aw y b).hi<(Aw y k).lo))
def IW (y:Am):List Int→List Int→Bool
  | _,[]=>true
  | pre,b::r=>RA y pre b && IW y (pre++[b]) r
def G7 (y:Am) (order:List Int):Bool:=decide (order.length=y.lG.length) && IW y [] order
theorem IX (y:Am) (hb:y.lG.length≤8) (hv:y.lG.all EQ=true) (order:List Int) (ho:order.length≤1000):∀ (n i:Nat),order.length+2<n+i→i≤order.length →
    ∃ r,B6 n y order (i:Int) (IV y (order.take i)) (HJ (El (order.take i))) (A2 (Bc (order.take i)))=some r ∧
      (if IW y (order.take i) (order.drop i) then r=Ex.go (HJ (El order),A2 (Bc order)) else ∃ x,r=Ex.ret (x,false))
  | 0,i,h,hi=>by omega
  | n+1,i,h,hi=>by
    rw [B6,Bz]
    by_cases hx:i<order.length
    · obtain⟨n,rfl⟩:∃ m,n=m+2:=⟨n-2,by omega⟩
      simp only [hx,decide_true,cond_true,BX _ _ hx,Yg,Nr _ y _ (by omega)]
      rw [BG hx,IW]
      unfold RA
      cases h1:Ei order[i] 0 ((y.lG.length:Int)-1) with
      | false=>exact⟨_,rfl,by simp⟩
      | true =>
        have h1':=AE.1 h1
        have h8:order[i]<8:=by omega
        simp only [Yk,cond_false,Ls h1'.1 h8,Yg,Lt _ h1'.1 h8,Lq y h1]
        cases h2:Bc (order.take i) order[i] with
        | true =>
          have h2':(order.take i).contains order[i]=true:=h2
          exact⟨_,rfl,by rw [h2']; simp⟩
        | false =>
          have h2':(order.take i).contains order[i]=false:=h2
          simp only [cond_false,Yg,R9 y _ (show 0≤(Aw y order[i]).hi by have:=Lr hv h1; omega)]
          cases h3:(order.take i).any fun k=>decide ((Aw y order[i]).hi<(Aw y k).lo) with
          | true=>exact⟨_,rfl,by rw [h2']; simp⟩
          | false =>
            simp only [cond_false,HK _ h1'.1 h8,Yg,Oa,Wn _ h1'.1 h8]
            rw [Da i (by omega),← ST]
            have e1:order.take i++[order[i]]=order.take (i+1):=(Ym hx).symm
            have e2:(A2 fun x=>if x=order[i] then true else Bc (order.take i) x)=A2 (Bc (order.take (i+1))):=Dg fun b=>by rw [← e1,GN]
            have e3:(HJ fun x=>if x=order[i] then(i:Int) else El (order.take i) x)=HJ (El (order.take (i+1))):=R8 fun b=>by
              rw [← e1,Ux _ _ h2',Yl,Nat.min_eq_left (Nat.le_of_lt hx)]
            rw [e1,e2,e3,h2']
            simp only [Bool.or_self,Bool.not_false,Bool.and_self,Yr]
            exact IX y hb hv order ho (n+2) (i+1) (by omega) (by omega)
    have:i=order.length:=by omega
    subst this
    simp [IW]
theorem WG:(A0.mk 0 0 0 0 0 0 0 0)=HJ (El []):=rfl
theorem TE:(A1.mk false false false false false false false false)=A2 (Bc []):=rfl
theorem Ns (n:Nat) (y:Am) (hb:y.lG.length≤8) (hv:y.lG.all EQ=true) (order:List Int) (ho:order.length≤1000) (hn:order.length+2<n) :
    ∃ x,Cv n y order=some (x,G7 y order)∧(G7 y order=true→x=HJ (El order)):=by
  unfold Cv G7
  by_cases hl:order.length=y.lG.length
  · obtain⟨r,h1,h2⟩:=IX y hb hv order ho n 0 (by omega) (by omega)
    rw [show((0:Nat):Int)=0 from rfl] at h1
    simp only [List.take_zero,Yj] at h1 h2
    have e0:IV y []=0:=rfl
    rw [e0] at h1
    rw [WG,TE,h1]
    rw [show((order.length:Int) != (y.lG.length:Int))=false by simp [hl]]
    simp only [cond_false,Yg,hl,decide_true,Yr]
    split at h2
    · rename_i hp
      subst h2
      exact⟨_,by rw [hp]; rfl,fun _=>rfl⟩
    rename_i hp
    obtain⟨x,rfl⟩:=h2
    exact⟨x,by simp [Ex.bind,hp],fun h=>absurd h hp⟩
  rw [show((order.length:Int) != (y.lG.length:Int))=true by simp; omega]
  simp only [cond_true]
  exact⟨HJ (El []),by rw [WG]; simp [hl],fun h=>by simp [hl] at h⟩
theorem DK {y:Am} (h:Cr y=0):y.room.length≤3∧0<y.room.length∧y.lG.length≤8∧Ei y.broken 0 2=true∧(y.room.all fun r=>Ei r 0 8)=true∧y.lG.all EQ=true∧GR [] (y.lG.map (·.turn))=false:=by
  unfold Cr at h
  split at h
  · omega
  split at h
  · omega
  rename_i h1 h2
  simp only [not_or] at h2
  simp only [Bool.not_eq_false,Bool.not_eq_true] at h2
  exact⟨by omega,by omega,by omega,h2.2.1,h2.2.2.1,h2.2.2.2.1,h2.2.2.2.2⟩
open Go Go.RowKit
theorem Wo {α:Type} (p:List α) (x:α) (r:List α):(p++x::r)[p.length]? = some x:=by simp
theorem Wp {α:Type} (p:List α) (x z:α) (r:List α):(p++x::r).set p.length z=p++z::r:=by
  rw [List.set_append_right _ _ (Ys _),Nat.sub_self]; rfl
theorem GG {α:Type} (p:List α) (x:α) (r:List α) {k:Nat} (hk:k=p.length):Bm (p++x::r) (k:Int)=some x:=by subst hk; rw [QD,Wo]
theorem JK {α:Type} (p:List α) (x z:α) (r:List α) {k:Nat} (hk:k=p.length):upd (p++x::r) (k:Int) z=some (p++z::r):=by
  subst hk; rw [Xl _ _ _ (by simp),Wp]
def IY (lt:Int→Int→Bool) (x:Int):List Int→List Int
  | []=>[x]
  | y::r=>if lt x y then y::IY lt x r else x::y::r
def RB (lt:Int→Int→Bool) (l:List Int) (x:Int):List Int:=(IY lt x l.reverse).reverse
def E4 (lt:Int→Int→Bool) (l:List Int):List Int:=l.foldl (RB lt) []
theorem M7 (lt:Int→Int→Bool) (x:Int):∀ l,(IY lt x l).Perm (x::l)
  | []=>.refl _
  | y::r=>by
    unfold IY
    split
    · exact((M7 lt x r).cons y).trans (.swap x y r)
    exact .refl _
theorem Uy (lt:Int→Int→Bool) (l:List Int) (x:Int):(RB lt l x).Perm (l++[x]):=by
  unfold RB
  refine(List.reverse_perm _).trans ((M7 lt x _).trans ?_)
  refine((List.reverse_perm l).cons x).trans ?_
  exact(List.perm_append_singleton x l).symm
theorem I9 (lt:Int→Int→Bool):∀ (l acc:List Int),(l.foldl (RB lt) acc).Perm (acc++l)
  | [],acc=>by simp
  | x::r,acc=>by
    rw [Yq]
    refine(I9 lt r _).trans ?_
    refine((Uy lt acc x).append_right r).trans ?_
    simp
theorem E5 (lt:Int→Int→Bool) (l:List Int):(E4 lt l).Perm l:=by simpa [E4] using I9 lt l []
theorem Em (lt:Int→Int→Bool) (l:List Int):(E4 lt l).length=l.length:=(E5 lt l).length_eq
theorem PY (lt:Int→Int→Bool) (l:List Int) (x:Int):E4 lt (l++[x])=RB lt (E4 lt l) x:=by simp [E4,List.foldl_append]
theorem Nt {lt:Int→Int→Bool} {le:Int→Int→Prop} (h1:∀ a b,lt a b=true→le a b) (h2:∀ a b,lt a b=false→le b a) (ht:∀ a b c,le a b→le b c→le a c) (x:Int) :
    ∀ l:List Int,l.Pairwise (fun a b=>le b a)→(IY lt x l).Pairwise (fun a b=>le b a)
  | [],_=>by simp [IY]
  | y::r,h=>by
    rw [Yt] at h
    unfold IY
    split
    · rename_i hx
      rw [Yt]
      refine⟨fun z hz=>?_,Nt h1 h2 ht x r h.2⟩
      rcases List.mem_cons.1 ((M7 lt x r).mem_iff.1 hz) with rfl | hz
      · exact h1 _ _ hx
      exact h.1 z hz
    rename_i hx
    have hyx:=h2 x y (by simpa using hx)
    rw [Yt,Yt]
    refine⟨fun z hz=>?_,h⟩
    rcases List.mem_cons.1 hz with rfl | hz
    · exact hyx
    exact ht _ _ _ (h.1 z hz) hyx
theorem RC {lt:Int→Int→Bool} {le:Int→Int→Prop} (h1:∀ a b,lt a b=true→le a b) (h2:∀ a b,lt a b=false→le b a) (ht:∀ a b c,le a b→le b c→le a c) (l:List Int):(E4 lt l).Pairwise le:=by
  have key:∀ (l acc:List Int),acc.Pairwise le→(l.foldl (RB lt) acc).Pairwise le:=by
    intro l
    induction l with
    | nil=>intro acc h; exact h
    | cons x r ih =>
      intro acc h
      rw [Yq]
      refine ih _ ?_
      unfold RB
      rw [List.pairwise_reverse]
      exact Nt h1 h2 ht x _ (List.pairwise_reverse.2 h)
  exact key l [] List.Pairwise.nil
theorem Ow (cmp:Int→Int→Option Int) (lt:Int→Int→Bool) (x:Int):∀ (A B:List Int)(n:Nat),A.length<n→A.length≤1000000→(∀ y∈A,∃ d,cmp x y=some d∧decide (d<0)=lt x y) →
    A6 n 0 cmp (A.reverse++x::B) (A.length:Int)=some ((IY lt x A).reverse++B)
  | _,_,0,h,_,_=>by omega
  | [],B,n+1,_,_,_=>by
    rw [A6]
    simp [IY]
  | y::A,B,n+1,h,hl,hc=>by
    obtain⟨d,hd,hlt⟩:=hc y (by simp)
    have hl':A.length+1≤1000000:=by simpa using hl
    have e0:(y::A).reverse++x::B=A.reverse++y::x::B:=by simp
    have e1:(y::A).reverse++x::B=(A.reverse++[y])++x::B:=by simp
    have hk:(A.reverse++[y]).length=A.length+1:=by simp
    have i1:Bm ((y::A).reverse++x::B) ((A.length+1:Nat):Int)=some x:=by rw [e1,GG _ _ _ hk.symm]
    have i2:Bm ((y::A).reverse++x::B) (A.length:Int)=some y:=by rw [e0,GG _ _ _ (by simp)]
    have u1:upd ((y::A).reverse++x::B) ((A.length+1:Nat):Int) y=some (A.reverse++y::y::B):=by rw [e1,JK _ _ _ _ hk.symm]; simp
    have i3:Bm (A.reverse++y::y::B) (A.length:Int)=some y:=GG _ _ _ (by simp)
    have u2:upd (A.reverse++y::y::B) (A.length:Int) x=some (A.reverse++x::y::B):=JK _ _ _ _ (by simp)
    have w1:IntKind.i64.wrap (((A.length+1:Nat):Int)-1)=(A.length:Int):=by rw [IS (by omega) (by omega)]; omega
    have g1:decide (((A.length+1:Nat):Int)>0)=true:=decide_eq_true (by omega)
    rw [A6,Yu]
    simp only [g1,cond_true,i1,i2,w1,Yg,hd,hlt]
    unfold IY
    cases hx:lt x y with
    | false=>simp
    | true =>
      simp only [cond_true,u1,i3,u2,Yg,if_true]
      rw [Ow cmp lt x A (y::B) n (by simp at h; omega) (by omega) fun z hz=>hc z (by simp [hz])]
      simp
theorem Ox (cmp:Int→Int→Option Int) (lt:Int→Int→Bool) (l:List Int) (hl:l.length≤1000) (hc:∀ x∈l,∀ y∈l,∃ d,cmp x y=some d∧decide (d<0)=lt x y):∀ (n i:Nat),2*l.length+2≤n+i→i≤l.length →
    A7 n 0 (l.length:Int) cmp (E4 lt (l.take i)++l.drop i) (i:Int)=some (E4 lt l)
  | 0,i,h,hi=>by omega
  | n+1,i,h,hi=>by
    rw [A7]
    by_cases hx:i<l.length
    · have h1:=Ow cmp lt l[i] (E4 lt (l.take i)).reverse (l.drop (i+1)) n (by simp [Em]; omega) (by simp [Em]; omega) (fun y hy=>hc _ (Yh hx) y (by
        have:=(E5 lt (l.take i)).mem_iff.1 (List.mem_reverse.1 hy)
        exact List.mem_of_mem_take this))
      rw [List.reverse_reverse,List.length_reverse,Em,Yl,Nat.min_eq_left (Nat.le_of_lt hx),← BG hx] at h1
      have e1:(IY lt l[i] (E4 lt (l.take i)).reverse).reverse=E4 lt (l.take (i+1)):=by
        rw [Ym hx,PY]; rfl
      rw [show decide ((i:Int)<(l.length:Int))=true by simp; omega,cond_true,h1,Yg,Da i (by omega),e1]
      exact Ox cmp lt l hl hc n (i+1) (by omega) (by omega)
    have:i=l.length:=by omega
    subst this
    simp
theorem QF (n:Nat) (cmp:Int→Int→Option Int) (lt:Int→Int→Bool) (l:List Int) (hl:l.length≤1000) (hc:∀ x∈l,∀ y∈l,∃ d,cmp x y=some d∧decide (d<0)=lt x y) (hn:2*l.length+2≤n) :
    Bi n l 0 (l.length:Int) cmp=some (E4 lt l):=by
  unfold Bi
  have e1:IntKind.i64.wrap (0+1)=((1:Nat):Int):=by decide
  rw [e1]
  cases l with
  | nil =>
    obtain⟨m,rfl⟩:∃ m,n=m+1:=⟨n-1,by simp at hn; omega⟩
    rw [A7]
    simp [E4]
  | cons x r =>
    have h1:=Ox cmp lt (x::r) hl hc n 1 (by omega) (by simp)
    have e2:E4 lt ((x::r).take 1)++(x::r).drop 1=x::r:=by simp [E4,RB,IY]
    rw [e2] at h1
    rw [h1]
    rfl
theorem Nu (n:Nat) (cmp:Int→Int→Option Int) (lt:Int→Int→Bool) (l:List Int) (hl:l.length≤12) (hc:∀ x∈l,∀ y∈l,∃ d,cmp x y=some d∧decide (d<0)=lt x y) (hn:2*l.length+4≤n) :
    AW n l cmp=some (E4 lt l):=by
  unfold AW Gd
  have w1:IntKind.u64.wrap (l.length:Int)=(l.length:Int):=by
    simp [IntKind.wrap,IntKind.bits,IntKind.signed]; omega
  rw [w1,if_pos ⟨by simp,by simp; omega⟩]
  obtain⟨m,rfl⟩:∃ m,n=m+2:=⟨n-2,by omega⟩
  simp only [Yg]
  rw [Bu,B0]
  have w2:IntKind.i64.wrap ((l.length:Int)-0)=(l.length:Int):=by rw [IS (by omega) (by omega)]; omega
  have c1:decide ((l.length:Int)≤12)=true:=by simp; omega
  rw [w2,c1,cond_true,QF m cmp lt l (by omega) hc (by omega)]
  rfl
theorem RD {key:Int→Int} {l l':List Int} (hk:∀ a∈l,∀ b∈l,key a=key b→a=b) (h1:l.Pairwise fun a b=>key a≤key b) (h2:l'.Pairwise fun a b=>key a≤key b) (hp:l.Perm l'):l=l' :=
  List.Perm.eq_of_pairwise (le:=fun a b=>key a≤key b) (fun a b ha hb hab hba=>hk a ha b (hp.mem_iff.2 hb) (Int.le_antisymm hab hba)) h1 h2 hp
def CQ (key:Int→Int) (a b:Int):Bool:=decide (key a<key b)
theorem Oy (key:Int→Int) (l:List Int):(E4 (CQ key) l).Pairwise fun a b=>key a≤key b :=
  RC (le:=fun a b=>key a≤key b) (fun a b h=>by simp [CQ] at h; omega) (fun a b h=>by simp [CQ] at h; omega) (fun a b c h1 h2=>Int.le_trans h1 h2) l
open Go Go.RowKit
def Ah (n:Nat):List Int:=(List.range n).map fun(k:Nat)=>(k:Int)
theorem Co (n:Nat):Ah (n+1)=Ah n++[(n:Int)]:=by simp [Ah,List.range_succ]
theorem AU (n:Nat):(Ah n).length=n:=by simp [Ah]
theorem Aq {n:Nat} {b:Int}:b∈Ah n↔0≤b∧b<n:=by
  unfold Ah
  rw [List.mem_map]
  constructor
  · rintro⟨k,hk,rfl⟩
    rw [List.mem_range] at hk
    omega
  intro h
  exact⟨b.toNat,by rw [List.mem_range]; omega,by omega⟩
theorem Fq {y:Am} {b:Int}:Ei b 0 ((y.lG.length:Int)-1)=true↔b∈Ah y.lG.length:=by
  rw [AE,Aq]; omega
theorem DB:∀ n,(Ah n).Nodup
  | 0=>by simp [Ah]
  | n+1=>by
    rw [Co,List.nodup_append]
    refine⟨DB n,by simp,fun a ha b hb=>?_⟩
    rw [Aq] at ha
    simp at hb
    omega
def CR (y:Am) (b:Int):Int:=(Aw y b).turn
def M8 (y:Am) (f:Int→Bool):List Int:=(Ah y.lG.length).filter fun b=>!f b
def Bk (y:Am) (f:Int→Bool):List Int:=E4 (CQ (CR y)) (M8 y f)
theorem Oz {y:Am} {f:Int→Bool} {b:Int}:b∈M8 y f↔b∈Ah y.lG.length∧f b=false:=by
  unfold M8
  rw [Yv]
  simp
theorem Cf {y:Am} {f:Int→Bool} {b:Int}:b∈Bk y f↔b∈Ah y.lG.length∧f b=false:=by
  unfold Bk
  rw [(E5 _ _).mem_iff,Oz]
theorem RE (y:Am) (f:Int→Bool):(M8 y f).length≤y.lG.length:=by
  unfold M8
  exact Nat.le_trans (Yw _ _) (by rw [AU]; exact Ys _)
theorem GS (y:Am) (f:Int→Bool):(Bk y f).length≤y.lG.length:=by
  unfold Bk
  rw [Em]
  exact RE y f
theorem Ij (y:Am) (f:Int→Bool):(Bk y f).Nodup:=by
  unfold Bk
  rw [(E5 _ _).nodup_iff]
  unfold M8
  exact List.Pairwise.filter _ (DB _)
theorem Nv (y:Am) (f:Int→Bool) (hb:y.lG.length≤8):∀ (n i:Nat),y.lG.length<n+i→i≤y.lG.length →
    BC n y (A2 f) ((Ah i).filter fun b=>!f b) (i:Int)=some (M8 y f)
  | 0,i,h,hi=>by omega
  | n+1,i,h,hi=>by
    rw [BC,Bz]
    by_cases hx:i<y.lG.length
    · have h0:(0:Int)≤(i:Int):=by omega
      have h8:(i:Int)<8:=by omega
      simp only [hx,decide_true,cond_true,Ls h0 h8,Lt _ h0 h8,Yg]
      have ih:=Nv y f hb n (i+1) (by omega) (by omega)
      rw [Co,Yx] at ih
      rw [Da i (by omega)]
      have hlen:=Yw (fun b=>!f b) (Ah i)
      rw [AU] at hlen
      cases hf:f (i:Int) with
      | true =>
        simp only [Yk,cond_false]
        rw [← ih]
        simp [hf]
      | false =>
        simp only [Bool.not_false,cond_true]
        rw [Ee _ _ (by simp; omega),Yg,← ih]
        simp [hf]
    have:i=y.lG.length:=by omega
    subst this
    simp [M8]
theorem Uz (n:Nat) {y:Am} (hv:y.lG.all EQ=true) {a b:Int} (ha:a∈Ah y.lG.length) (hb:b∈Ah y.lG.length) :
    ∃ d,BL n a b y=some d∧decide (d<0)=CQ (CR y) a b:=by
  rw [← Fq] at ha hb
  have h1:=Lr hv ha
  have h2:=Lr hv hb
  unfold BL
  rw [Lq y ha,Lq y hb]
  refine⟨_,rfl,?_⟩
  rw [IS (by omega) (by omega)]
  unfold CQ CR
  by_cases h:(Aw y a).turn<(Aw y b).turn
  · rw [decide_eq_true h,decide_eq_true (by omega)]
  rw [decide_eq_false h,decide_eq_false (by omega)]
theorem RF (n:Nat) (y:Am) (f:Int→Bool) (hb:y.lG.length≤8) (hv:y.lG.all EQ=true) (hn:20≤n):Dd n y (A2 f)=some (Bk y f):=by
  unfold Dd
  have e1:=Nv y f hb n 0 (by omega) (by omega)
  rw [show((0:Nat):Int)=0 from rfl] at e1
  have hl:=RE y f
  have e2:=Nu n (fun y0 y1=>BL n y0 y1 y) (CQ (CR y)) (M8 y f) (by omega) (fun a ha b hb=>Uz n hv (Oz.1 ha).1 (Oz.1 hb).1) (by omega)
  rw [show(Ah 0).filter (fun b=>!f b)=([]:List Int) from rfl] at e1
  rw [e1,Yg,e2]
  rfl
def Cp (m:Nat) (g:Int→Int):List Int:=(Ah m).map g
theorem Ik (m:Nat) (g:Int→Int):(Cp m g).length=m:=by simp [Cp,AU]
theorem QG {m:Nat} {g:Int→Int} {k:Nat} (h:k<m):(Cp m g)[k]? = some (g (k:Int)):=by
  unfold Cp Ah
  rw [Yy,Yy,List.getElem?_range h]
  rfl
theorem Gb {m:Nat} {g:Int→Int} {b:Int} (h:Ei b 0 ((m:Int)-1)=true):Bm (Cp m g) b=some (g b):=by
  rw [AE] at h
  obtain⟨k,rfl⟩:=Yn h.1
  rw [QD,QG (by omega)]
theorem TF {m:Nat} {g:Int→Int} {l:List Int} (hl:l.length=m) (h:∀ k,k<m→l[k]? = some (g (k:Int))):l=Cp m g:=by
  apply List.ext_getElem?
  intro k
  rcases Nat.lt_or_ge k m with hk | hk
  · rw [h k hk,QG hk]
  rw [List.getElem?_eq_none (by omega),List.getElem?_eq_none (by rw [Ik]; omega)]
theorem Il {m:Nat} {g:Int→Int} {b v:Int} (h:Ei b 0 ((m:Int)-1)=true):upd (Cp m g) b v=some (Cp m fun x=>if x=b then v else g x):=by
  rw [AE] at h
  obtain⟨k,rfl⟩:=Yn h.1
  rw [Xl _ _ _ (by rw [Ik]; omega)]
  congr 1
  refine TF (by rw [List.length_set,Ik]) fun j hj=>?_
  by_cases hjk:j=k
  · subst hjk
    rw [Yz (by rw [Ik]; omega)]
    simp
  rw [List.getElem?_set_ne (Ne.symm hjk),QG hj,if_neg (by omega)]
theorem RG (l:List Int):l=Cp l.length fun k=>l.getD k.toNat 0:=TF rfl fun k hk=>by
  rw [Yf hk]
  simp [Yo,Yf hk]
def Cb (room:List Int) (k:Int):Int:=room.getD k.toNat 0
def DW (room:List Int):List Int→List Int→Bool
  | _,[]=>true
  | pre,n::r=>Ei n 0 ((room.length:Int)-1) && (decide ((pre.count n:Int)<Cb room n) && DW room (pre++[n]) r)
def DX (y:Am) (l:List Int):Bool:=decide (l.length=y.lG.length) && DW y.room [] l
theorem M9 {room:List Int} (h:(room.all fun r=>Ei r 0 8)=true) {k:Int} (hk:Ei k 0 ((room.length:Int)-1)=true):0≤Cb room k∧Cb room k≤8:=by
  rw [AE] at hk
  have hl:k.toNat<room.length:=by omega
  unfold Cb
  rw [Yo,Yf hl]
  exact AE.1 (List.all_eq_true.1 h _ (Yh hl))
theorem GT (pre:List Int) (n k:Int):((pre++[n]).count k:Int)=(pre.count k:Int)+(if k=n then 1 else 0):=by
  rw [List.count_append,List.count_singleton]
  by_cases h:k=n
  · subst h; simp
  have:(n == k)=false:=by
    cases hq:(n == k) with
    | false=>rfl
    | true=>rw [beq_iff_eq] at hq; exact absurd hq.symm h
  simp [h,this]
theorem Nw (room:List Int) (hr:(room.all fun r=>Ei r 0 8)=true) (hm:room.length≤1000) (l:List Int) (hl:l.length≤1000):∀ (n i:Nat),l.length<n+i→i≤l.length→(∀ k,Ei k 0 ((room.length:Int)-1)=true→((l.take i).count k:Int)≤Cb room k) →
    ∃ r,BV n l (Cp room.length fun k=>Cb room k-((l.take i).count k:Int)) (i:Int)=some r∧(if DW room (l.take i) (l.drop i) then ∃ x,r=Ex.go x else r=Ex.ret false)
  | 0,i,h,hi,_=>by omega
  | n+1,i,h,hi,hc=>by
    rw [BV,Bz]
    by_cases hx:i<l.length
    · simp only [hx,decide_true,cond_true,BX _ _ hx,Yg,HI,Ik]
      rw [IS (x:=(room.length:Int)-1) (by omega) (by omega),BG hx,DW]
      cases h1:Ei l[i] 0 ((room.length:Int)-1) with
      | false=>exact⟨_,rfl,by simp⟩
      | true =>
        have hk:=hc _ h1
        have hR:=M9 hr h1
        simp only [Yk,cond_false,Gb h1,Yg]
        by_cases h2:((l.take i).count l[i]:Int)<Cb room l[i]
        · have e0:(Cb room l[i]-((l.take i).count l[i]:Int) == 0)=false:=by
            cases hq:(Cb room l[i]-((l.take i).count l[i]:Int) == 0) with
            | false=>rfl
            | true=>rw [beq_iff_eq] at hq; omega
          rw [e0]
          simp only [cond_false,Il h1,Yg]
          rw [Da i (by omega),IS (by omega) (by omega),decide_eq_true h2]
          have e1:l.take i++[l[i]]=l.take (i+1):=(Ym hx).symm
          have e2:(Cp room.length fun x=>if x=l[i] then Cb room l[i]-((l.take i).count l[i]:Int)-1 else Cb room x-((l.take i).count x:Int))=Cp room.length fun k=>Cb room k-((l.take (i+1)).count k:Int):=by
            congr 1
            funext x
            rw [← e1,GT]
            by_cases hxe:x=l[i]
            · rw [if_pos hxe,if_pos hxe,hxe]; omega
            rw [if_neg hxe,if_neg hxe]; omega
          rw [e1,e2]
          simp only [Yr]
          refine Nw room hr hm l hl n (i+1) (by omega) (by omega) fun k hkk=>?_
          rw [← e1,GT]
          have:=hc k hkk
          split
          · rename_i hke; rw [hke]; omega
          omega
        have e0:(Cb room l[i]-((l.take i).count l[i]:Int) == 0)=true:=by rw [beq_iff_eq]; omega
        rw [e0,decide_eq_false h2]
        exact⟨_,rfl,by simp⟩
    have:i=l.length:=by omega
    subst this
    exact⟨Ex.go _,by simp; rfl,by simp [DW]⟩
theorem Vn (n:Nat) (y:Am) (hr:(y.room.all fun r=>Ei r 0 8)=true) (hm:y.room.length≤1000) (l:List Int) (hl:l.length≤1000) (hn:l.length<n):DM n y l=some (DX y l):=by
  unfold DM DX
  by_cases he:l.length=y.lG.length
  · rw [show((l.length:Int) != (y.lG.length:Int))=false by simp [he],cond_false,Lp n _ hm,Yg]
    obtain⟨r,h1,h2⟩:=Nw y.room hr hm l hl n 0 (by omega) (by omega) (fun k hk=>by simp; exact(M9 hr hk).1)
    have e1:(Cp y.room.length fun k=>Cb y.room k-(((l.take 0).count k:Nat):Int))=y.room:=by
      refine Eq.trans ?_ (RG y.room).symm
      congr 1
      funext k
      simp [Cb]
    rw [e1,show((0:Nat):Int)=0 from rfl] at h1
    rw [h1]
    simp only [List.take_zero,Yj] at h2
    split at h2
    · rename_i hq
      obtain⟨x,rfl⟩:=h2
      simp [Ex.bind,he,hq]
    rename_i hq
    subst h2
    simp [Ex.bind,he,hq]
  rw [show((l.length:Int) != (y.lG.length:Int))=true by simp; omega]
  simp [he]
open Go Go.RowKit
def Lu (y:Am):Int→List Int→Bool
  | _,[]=>true
  | last,b::r=>Ei b 0 ((y.lG.length:Int)-1) && (decide (last<b) && Lu y b r)
def HL (y:Am) (l:List Int):Bool:=Lu y (-1) l && decide ((l.length:Int)≤y.broken)
theorem O0 (y:Am) (hb:y.lG.length≤8) (l:List Int) (hl:l.length≤1000):∀ (n i:Nat)(last:Int),l.length<n+i→i≤l.length →
    ∃ r,Ci n y l (i:Int) last (A2 (Bc (l.take i)))=some r∧(if Lu y last (l.drop i) then r=Ex.go (A2 (Bc l)) else ∃ x,r=Ex.ret (x,false))
  | 0,i,last,h,hi=>by omega
  | n+1,i,last,h,hi=>by
    rw [Ci,Bz]
    by_cases hx:i<l.length
    · simp only [hx,decide_true,cond_true,BX _ _ hx,Yg,Nr _ y _ (by omega)]
      rw [BG hx,Lu]
      cases h1:Ei l[i] 0 ((y.lG.length:Int)-1) with
      | false=>exact⟨_,rfl,by simp⟩
      | true =>
        have h1':=AE.1 h1
        have h8:l[i]<8:=by omega
        by_cases h2:last<l[i]
        · simp only [Yk,cond_false,decide_eq_false (show ¬ l[i]≤last by omega),decide_eq_true h2,Ls h1'.1 h8,HK _ h1'.1 h8,Yg,Yr]
          rw [Da i (by omega)]
          have e1:l.take i++[l[i]]=l.take (i+1):=(Ym hx).symm
          have e2:(A2 fun x=>if x=l[i] then true else Bc (l.take i) x)=A2 (Bc (l.take (i+1))):=Dg fun b=>by rw [← e1,GN]
          rw [e2]
          exact O0 y hb l hl n (i+1) l[i] (by omega) (by omega)
        rw [decide_eq_false h2]
        simp only [Yk,cond_false,decide_eq_true (show l[i]≤last by omega),Yg,cond_true]
        exact⟨_,rfl,by simp⟩
    have:i=l.length:=by omega
    subst this
    exact⟨Ex.go _,by simp; rfl,by simp [Lu]⟩
theorem Wq (n:Nat) (y:Am) (hb:y.lG.length≤8) (l:List Int) (hl:l.length≤1000) (hn:l.length<n) :
    ∃ x,Er n y l=some (x,HL y l)∧(HL y l=true→x=A2 (Bc l)):=by
  unfold Er HL
  obtain⟨r,h1,h2⟩:=O0 y hb l hl n 0 (-1) (by omega) (by omega)
  rw [show((0:Nat):Int)=0 from rfl,List.take_zero] at h1
  rw [Yj] at h2
  rw [TE,h1,Yg]
  split at h2
  · rename_i hq
    subst h2
    exact⟨_,by rw [hq]; rfl,fun _=>rfl⟩
  rename_i hq
  obtain⟨x,rfl⟩:=h2
  exact⟨x,by simp [Ex.bind,hq],fun h=>by simp [hq] at h⟩
def Hs (y:Am) (lanes order broken:List Int):Bool:=DX y lanes && (G7 y order && HL y broken)
def CJ (y:Am) (lanes order broken:List Int):Int:=if Cr y=0 then(if Hs y lanes order broken then 0 else 2) else Cr y
def E6 (y:Am) (lanes order broken:List Int):Cz:=⟨y,lanes,HJ (El order),A2 (Bc broken)⟩
theorem RH (n:Nat) (y:Am) (lanes order broken:List Int) (hr:y.room.length≤100) (hb:y.lG.length≤100) (h1:lanes.length≤100) (h2:order.length≤100) (h3:broken.length≤100) (hn:200≤n) :
    ∃ x,Dc n y lanes order broken=some (x,CJ y lanes order broken)∧(CJ y lanes order broken=0→x=E6 y lanes order broken):=by
  unfold Dc CJ
  rw [Ov n y (by omega) (by omega) (by omega) (by omega),Yg]
  by_cases hf:Cr y=0
  · obtain⟨v1,v0,v2,v3,v4,v5,v6⟩:=DK hf
    obtain⟨x1,p1,p2⟩:=Ns n y v2 v5 order (by omega) (by omega)
    obtain⟨x2,q1,q2⟩:=Wq n y v2 broken (by omega) (by omega)
    rw [hf,p1,q1,Vn n y v4 (by omega) lanes (by omega) (by omega)]
    simp only [Yg,bne_self_eq_false,cond_false,if_true]
    unfold Hs
    cases a1:G7 y order with
    | false=>exact⟨_,by simp; rfl,fun h=>by simp at h⟩
    | true =>
      cases a2:HL y broken with
      | false=>exact⟨_,by simp; rfl,fun h=>by simp at h⟩
      | true =>
        cases a3:DX y lanes with
        | false=>exact⟨_,by simp; rfl,fun h=>by simp at h⟩
        | true=>exact⟨_,by simp; rfl,fun _=>by rw [p2 a1,q2 a2]; rfl⟩
  have hn:(Cr y != 0)=true:=by simp [hf]
  rw [hn,if_neg hf]
  exact⟨_,rfl,fun h=>absurd h hf⟩
theorem Lv {σ:Type} (step:σ→Int→Option σ) (q:List Int) (hq:q.length≤1000):∀ (n i:Nat)(s:σ),q.length<n+i→i≤q.length →
    AV n (fun s x=>(step s x).bind fun s1=>some (s1,true)) q (i:Int) s=((q.drop i).foldlM step s).map Ex.go
  | 0,i,s,h,hi=>by omega
  | n+1,i,s,h,hi=>by
    rw [AV,Bz]
    by_cases hx:i<q.length
    · simp only [hx,decide_true,cond_true,BX _ _ hx,Yg]
      rw [Da i (by omega),BG hx,List.foldlM_cons]
      cases hs:step s q[i] with
      | none=>rfl
      | some s' =>
        simp only [Yg,Yk,cond_false]
        rw [Lv step q hq n (i+1) s' (by omega) (by omega)]
        rfl
    have:i=q.length:=by omega
    subst this
    simp
theorem PZ {σ:Type} (n:Nat) (step:σ→Int→Option σ) (s:σ) (q:List Int) (hq:q.length≤1000) (hn:q.length<n) :
    B8 n (fun s x=>(step s x).bind fun s1=>some (s1,true)) s q=q.foldlM step s:=by
  unfold B8
  have e1:=Lv step q hq n 0 s (by omega) (by omega)
  rw [show((0:Nat):Int)=0 from rfl,Yj] at e1
  rw [e1]
  cases q.foldlM step s <;> rfl
def Bn (lanes:List Int) (b:Int):Int:=lanes.getD b.toNat 0
theorem Lw (lanes:List Int) {b:Int} (h0:0≤b) (h:b<lanes.length):Bm lanes b=some (Bn lanes b):=by
  obtain⟨k,rfl⟩:=Yn h0
  rw [BX _ _ (by omega)]
  unfold Bn
  simp [Yo,Yf (show k<lanes.length by omega)]
def SU (lanes order:List Int) (c b:Int):Bool:=Bn lanes c == Bn lanes b && decide (El order c<El order b)
theorem U0 (n:Nat) (y:Am) (lanes order broken:List Int) (hl:lanes.length=y.lG.length) (hb:y.lG.length≤8) {c b:Int} (hc:c∈Ah y.lG.length) (hbb:b∈Ah y.lG.length) :
    CD n (E6 y lanes order broken) c b=some (SU lanes order c b):=by
  rw [Aq] at hc hbb
  unfold CD E6 SU
  rw [Lw lanes hc.1 (by omega),Lw lanes hbb.1 (by omega)]
  simp only [Yg,Ls hc.1 (by omega),Ls hbb.1 (by omega),Ob _ hc.1 (show c<8 by omega),Ob _ hbb.1 (show b<8 by omega)]
  cases Bn lanes c == Bn lanes b <;> simp
theorem O1 (l:List Int) (b:Int):0≤El l b∧El l b≤l.length:=by
  unfold El
  split
  · have:=List.idxOf_le_length (a:=b) (l:=l)
    omega
  omega
def En (y:Am) (lanes order:List Int) (g:Int→Bool) (b:Int) (k:Nat):List Int:=(Ah k).filter fun c=>!g c && SU lanes order c b
theorem Kg (y:Am) (lanes order broken:List Int) (hl:lanes.length=y.lG.length) (hb:y.lG.length≤8) (g:Int→Bool) (b:Int) (hbb:b∈Ah y.lG.length):∀ (n i:Nat),y.lG.length<n+i→i≤y.lG.length →
    AQ n (E6 y lanes order broken) b (En y lanes order g b i) (i:Int) (A2 fun x=>g x || Bc (En y lanes order g b i) x)=some (En y lanes order g b y.lG.length,A2 fun x=>g x || Bc (En y lanes order g b y.lG.length) x)
  | 0,i,h,hi=>by omega
  | n+1,i,h,hi=>by
    rw [AQ]
    rw [show(E6 y lanes order broken).yard=y from rfl,Bz]
    by_cases hx:i<y.lG.length
    · have h0:(0:Int)≤(i:Int):=by omega
      have h8:(i:Int)<8:=by omega
      have hni:Bc (En y lanes order g b i) (i:Int)=false:=by
        cases hq:Bc (En y lanes order g b i) (i:Int) with
        | false=>rfl
        | true =>
          have hm:(i:Int)∈En y lanes order g b i:=by simpa [Bc] using hq
          have:=(List.mem_filter.1 hm).1
          rw [Aq] at this
          omega
      have ih:=Kg y lanes order broken hl hb g b hbb n (i+1) (by omega) (by omega)
      have hs:En y lanes order g b (i+1)=if !g (i:Int) && SU lanes order (i:Int) b then En y lanes order g b i++[(i:Int)] else En y lanes order g b i:=by
        unfold En
        rw [Co,Yx]
        cases hq:(!g (i:Int) && SU lanes order (i:Int) b) <;> simp [hq]
      simp only [hx,decide_true,cond_true,Ls h0 h8,Lt _ h0 h8,Yg,hni,Bool.or_false]
      rw [Da i (by omega)]
      have hlen:(En y lanes order g b i).length≤i:=by
        unfold En
        exact Nat.le_trans (Yw _ _) (by rw [AU]; exact Ys _)
      have hbf:=U0 n y lanes order broken hl hb (c:=(i:Int)) (b:=b) (by rw [Aq]; omega) hbb
      cases hg:g (i:Int) with
      | true =>
        rw [hg] at hs
        simp only [Yk,Bool.false_and,Bool.false_eq_true,if_false] at hs
        rw [hs] at ih
        simpa using ih
      | false =>
        rw [hg] at hs
        simp only [Bool.not_false,Yr] at hs
        simp only [Bool.not_false,cond_true,hbf,Yg]
        cases hq:SU lanes order (i:Int) b with
        | false =>
          rw [hq] at hs
          simp only [Bool.false_eq_true,if_false] at hs
          rw [hs] at ih
          simpa using ih
        | true =>
          rw [hq] at hs
          simp only [if_true] at hs
          simp only [cond_true]
          rw [Ee _ _ (by simp; omega)]
          simp only [Yg,HK _ h0 h8]
          have e2:(A2 fun x=>if x=(i:Int) then true else(g x || Bc (En y lanes order g b i) x))=A2 fun x=>g x || Bc (En y lanes order g b (i+1)) x:=Dg fun x=>by
            rw [hs,GN]
            split <;> simp
          rw [e2,← hs]
          exact ih
    have:i=y.lG.length:=by omega
    subst this
    simp
def Gz (y:Am) (lanes order:List Int) (g:Int→Bool) (b:Int):List Int:=E4 (CQ (El order)) (En y lanes order g b y.lG.length)
theorem U1 {l l':List Int} (h:l.Perm l') (x:Int):Bc l x=Bc l' x:=by
  unfold Bc
  rw [Bool.eq_iff_iff]
  simp [h.mem_iff]
def Kh (y:Am) (lanes order:List Int) (g:Int→Bool) (b:Int):Int→Bool:=fun x=>if x=b then true else(g x || Bc (Gz y lanes order g b) x)
def Cs (y:Am) (lanes order:List Int):(Int→Bool)→List Int→List (List Int)
  | _,[]=>[]
  | g,b::r=>Gz y lanes order g b::Cs y lanes order (Kh y lanes order g b) r
theorem GH (y:Am) (lanes order:List Int):∀ (ts:List Int)(g:Int→Bool),(Cs y lanes order g ts).length=ts.length
  | [],_=>rfl
  | b::r,g=>by rw [Cs,Yu,Yu,GH]
theorem RI (n:Nat) (y:Am) (lanes order broken:List Int) (hb:y.lG.length≤8) (ho:order.length≤1000) {c d:Int} (hc:c∈Ah y.lG.length) (hd:d∈Ah y.lG.length) :
    ∃ e,AR n c d (E6 y lanes order broken)=some e∧decide (e<0)=CQ (El order) c d:=by
  rw [Aq] at hc hd
  unfold AR E6
  simp only [Ls hc.1 (show c<8 by omega),Ls hd.1 (show d<8 by omega),Ob _ hc.1 (show c<8 by omega),Ob _ hd.1 (show d<8 by omega),Yg]
  refine⟨_,rfl,?_⟩
  have h1:=O1 order c
  have h2:=O1 order d
  rw [IS (by omega) (by omega)]
  unfold CQ
  by_cases h:El order c<El order d
  · rw [decide_eq_true h,decide_eq_true (by omega)]
  rw [decide_eq_false h,decide_eq_false (by omega)]
theorem MA {y:Am} {lanes order:List Int} {g:Int→Bool} {b:Int} {k:Nat} {c:Int}:c∈En y lanes order g b k↔c∈Ah k∧g c=false∧SU lanes order c b=true:=by
  unfold En
  rw [Yv]
  simp
theorem K9 {y:Am} {lanes order:List Int} {g:Int→Bool} {b:Int} {c:Int}:c∈Gz y lanes order g b↔c∈Ah y.lG.length∧g c=false∧SU lanes order c b=true:=by
  unfold Gz
  rw [(E5 _ _).mem_iff,MA]
theorem U2 (y:Am) (lanes order:List Int) (g:Int→Bool) (b:Int) (k:Nat):(En y lanes order g b k).length≤k:=by
  unfold En
  exact Nat.le_trans (Yw _ _) (by rw [AU]; exact Ys _)
theorem Lx (n:Nat) (y:Am) (lanes order broken:List Int) (hl:lanes.length=y.lG.length) (hb:y.lG.length≤8) (ho:order.length≤1000) (hn:30≤n)
    (step:(List (List Int))×A1→Int→Option ((List (List Int))×A1))
    (hstep:step=fun s x15=>((AQ n (E6 y lanes order broken) x15 ([]:List Int) 0 s.2).bind fun o_104 =>
      ((AW n o_104.1 (fun(y0:Int)(y1:Int)=>AR n y0 y1 (E6 y lanes order broken))).bind fun x42 =>
      ((LZ 8 x15).bind fun x44=>((A1.setI o_104.2 x15 true).bind fun u_233=>((Ih s.1 ([x42]:List (List Int))).bind fun x48=>some (x48,u_233)))))) ) :
    ∀ (ts:List Int)(out:List (List Int))(g:Int→Bool),(∀ b∈ts,b∈Ah y.lG.length)→out.length+ts.length≤1000→∃ u,ts.foldlM step (out,A2 g)=some (out++Cs y lanes order g ts,u)
  | [],out,g,_,_=>⟨A2 g,by simp [Cs]⟩
  | b::r,out,g,h,hle=>by
    have hbb:=h b (by simp)
    have hbr:=Aq.1 hbb
    have e1:=Kg y lanes order broken hl hb g b hbb n 0 (by omega) (by omega)
    rw [show((0:Nat):Int)=0 from rfl,show En y lanes order g b 0=[] from rfl,show(A2 fun x=>g x || Bc [] x)=A2 g from Dg fun x=>by simp [Bc]] at e1
    have hlen:=U2 y lanes order g b y.lG.length
    have e2:=Nu n (fun y0 y1=>AR n y0 y1 (E6 y lanes order broken)) (CQ (El order)) (En y lanes order g b y.lG.length) (by omega)
      (fun c hc d hd=>RI n y lanes order broken hb ho (MA.1 hc).1 (MA.1 hd).1) (by omega)
    have e3:(A2 fun x=>if x=b then true else(g x || Bc (En y lanes order g b y.lG.length) x))=A2 (Kh y lanes order g b):=Dg fun x=>by
      unfold Kh Gz
      rw [U1 (E5 _ _)]
    have hs:step (out,A2 g) b=some (out++[Gz y lanes order g b],A2 (Kh y lanes order g b)):=by
      rw [hstep]
      simp only [e1,Yg,e2,Ls hbr.1 (show b<8 by omega),HK _ hbr.1 (show b<8 by omega),e3]
      rw [Ee _ _ (by simp at hle ⊢; omega)]
      rfl
    obtain⟨u,ih⟩:=Lx n y lanes order broken hl hb ho hn step hstep r (out++[Gz y lanes order g b]) (Kh y lanes order g b) (fun z hz=>h z (by simp [hz])) (by simp at hle ⊢; omega)
    refine⟨u,?_⟩
    rw [List.foldlM_cons,hs]
    show(r.foldlM step (out++[Gz y lanes order g b],A2 (Kh y lanes order g b)))=_
    rw [ih,Cs,List.append_assoc]
    rfl
theorem O2 (n:Nat) (y:Am) (lanes order broken:List Int) (hl:lanes.length=y.lG.length) (hb:y.lG.length≤8) (hv:y.lG.all EQ=true) (ho:order.length≤1000) (hn:30≤n) :
    Cw n (E6 y lanes order broken)=some (Cs y lanes order (fun _=>false) (Bk y (Bc broken))):=by
  unfold Cw
  rw [show(E6 y lanes order broken).yard=y from rfl,show(E6 y lanes order broken).broken=A2 (Bc broken) from rfl,RF n y _ hb hv (by omega),Yg]
  have hlen:=GS y (Bc broken)
  obtain⟨u,h1⟩:=Lx n y lanes order broken hl hb ho hn _ rfl (Bk y (Bc broken)) [] (fun _=>false) (fun b hbm=>(Cf.1 hbm).1) (by simp; omega)
  have h2:=PZ n _ (([]:List (List Int)),A2 fun _=>false) (Bk y (Bc broken)) (by omega) (by omega) |>.trans h1
  rw [show(A1.mk false false false false false false false false)=A2 (fun _=>false) from rfl]
  rw [h2]
  rfl
open Go Go.RowKit
theorem O3 (y:Am):∀ (l pre:List Int),pre.Nodup→IW y pre l=true→(pre++l).Nodup∧∀ b∈l,b∈Ah y.lG.length
  | [],pre,hp,_=>by simpa using hp
  | b::r,pre,hp,h=>by
    unfold IW RA at h
    simp only [Yp,Bool.not_eq_true',Bool.or_eq_false_iff] at h
    obtain⟨⟨h1,h2,_⟩,h4⟩:=h
    have hb:b ∉ pre:=by simpa using h2
    have hp':(pre++[b]).Nodup:=by
      rw [List.nodup_append]
      refine⟨hp,by simp,fun a ha c hc=>?_⟩
      simp at hc
      rintro rfl
      exact hb (hc▸ha)
    obtain⟨q1,q2⟩:=O3 y r (pre++[b]) hp' h4
    refine⟨by simpa using q1,fun c hc=>?_⟩
    rcases List.mem_cons.1 hc with rfl | hc
    · exact Fq.1 h1
    exact q2 c hc
theorem SW:∀ (l m:List Int),l.Nodup→(∀ x∈l,x∈m)→m.length≤l.length→∀ x∈m,x∈l
  | [],m,_,_,hl,x,hx=>by
    have:m=[]:=List.eq_nil_of_length_eq_zero (by simpa using hl)
    rw [this] at hx
    simp at hx
  | a::l,m,hn,hs,hl,x,hx=>by
    rw [List.nodup_cons] at hn
    by_cases hxa:x=a
    · simp [hxa]
    have ha:a∈m:=hs a (by simp)
    refine List.mem_cons_of_mem _ (SW l (m.erase a) hn.2 (fun z hz=>?_) ?_ x ((List.mem_erase_of_ne hxa).2 hx))
    · have hza:z≠a:=fun h=>hn.1 (h▸hz)
      exact(List.mem_erase_of_ne hza).2 (hs z (by simp [hz]))
    rw [List.length_erase_of_mem ha]
    simp at hl
    omega
structure QH (y:Am) (order:List Int):Prop where
  nd:order.Nodup
  len:order.length=y.lG.length
  mem:∀ b,b∈order↔b∈Ah y.lG.length
theorem KA {y:Am} {order:List Int} (h:G7 y order=true):QH y order:=by
  unfold G7 at h
  simp only [Yp,decide_eq_true_eq] at h
  obtain⟨h1,h2⟩:=O3 y order [] List.nodup_nil h.2
  rw [Y0] at h1
  exact⟨h1,h.1,fun b=>⟨h2 b,SW order (Ah y.lG.length) h1 h2 (by rw [AU,h.1]; exact Ys _) b⟩⟩
theorem Vo {l:List Int} {a b:Int} (ha:a∈l) (hb:b∈l) (h:El l a=El l b):a=b:=by
  unfold El at h
  simp only [List.contains_iff_mem,ha,hb,if_true] at h
  have h':l.idxOf a=l.idxOf b:=by omega
  have q1:=List.idxOf_lt_length_iff.2 ha
  have q2:=List.idxOf_lt_length_iff.2 hb
  have e1:=List.getElem_idxOf q1
  have e2:=List.getElem_idxOf q2
  rw [← e1,← e2]
  congr 1
open Go Go.RowKit
theorem Ly (m:List (List Int)) (hm:m.length≤1000) (hs:m.flatten.length≤1000000):∀ (n i:Nat),m.length<n+i→i≤m.length →
    Bd n m (i:Int) ((m.take i).flatten.length:Int)=some (m.flatten.length:Int)
  | 0,i,h,hi=>by omega
  | n+1,i,h,hi=>by
    rw [Bd,Bz]
    by_cases hx:i<m.length
    · have e1:(m.take (i+1)).flatten.length=(m.take i).flatten.length+m[i].length:=by
        rw [Ym hx,List.flatten_append,Y1]
        simp
      have hle:(m.take (i+1)).flatten.length≤m.flatten.length:=by
        have:=List.take_append_drop (i+1) m
        have h2:=congrArg List.flatten this
        rw [List.flatten_append] at h2
        rw [← h2,Y1]
        omega
      simp only [hx,decide_true,cond_true,BX _ _ hx,Yg]
      rw [Da i (by omega),IS (by omega) (by omega),show((m.take i).flatten.length:Int)+(m[i].length:Int)=((m.take (i+1)).flatten.length:Int) by omega]
      rw [show decide (((m.take (i+1)).flatten.length:Int)<0)=false from decide_eq_false (by omega),cond_false]
      exact Ly m hm hs n (i+1) (by omega) (by omega)
    have:i=m.length:=by omega
    subst this
    simp
theorem Lz (m:List (List Int)) (hm:m.length≤1000) (hs:m.flatten.length≤1000000):∀ (n i:Nat),m.length<n+i→i≤m.length →
    Be n m (m.take i).flatten (i:Int)=some m.flatten
  | 0,i,h,hi=>by omega
  | n+1,i,h,hi=>by
    rw [Be,Bz]
    by_cases hx:i<m.length
    · have e1:(m.take (i+1)).flatten=(m.take i).flatten++m[i]:=by
        rw [Ym hx,List.flatten_append]
        simp
      have hle:(m.take (i+1)).flatten.length≤m.flatten.length:=by
        have:=List.take_append_drop (i+1) m
        have h2:=congrArg List.flatten this
        rw [List.flatten_append] at h2
        rw [← h2,Y1]
        omega
      simp only [hx,decide_true,cond_true,BX _ _ hx,Yg]
      rw [Ee _ _ (by rw [e1,Y1] at hle; omega),Yg,Da i (by omega),← e1]
      exact Lz m hm hs n (i+1) (by omega) (by omega)
    have:i=m.length:=by omega
    subst this
    simp
theorem U3 (n:Nat) (m:List (List Int)) (hm:m.length≤1000) (hs:m.flatten.length≤1000000) (hn:m.length<n):Ct n m=some m.flatten:=by
  unfold Ct
  have e1:=Ly m hm hs n 0 (by omega) (by omega)
  have e2:=Lz m hm hs n 0 (by omega) (by omega)
  simp only [List.take_zero,List.flatten_nil,List.length_nil] at e1 e2
  rw [show((0:Nat):Int)=0 from rfl] at e1 e2
  rw [e1,Yg]
  unfold Uc
  rw [if_pos ⟨by omega,by omega⟩,Yg,e2]
  rfl
theorem Ki (y:Am) (lanes order:List Int):∀ (ts:List Int)(g:Int→Bool),(Cs y lanes order g ts).flatten.Nodup∧∀ c∈(Cs y lanes order g ts).flatten,g c=false∧c∈Ah y.lG.length
  | [],g=>by simp [Cs]
  | b::r,g=>by
    obtain⟨h1,h2⟩:=Ki y lanes order r (Kh y lanes order g b)
    rw [Cs,List.flatten_cons]
    have hg:∀ c∈(Cs y lanes order (Kh y lanes order g b) r).flatten,c ∉ Gz y lanes order g b∧g c=false∧c∈Ah y.lG.length:=fun c hc=>by
      obtain⟨q1,q2⟩:=h2 c hc
      unfold Kh at q1
      split at q1
      · cases q1
      simp only [Bool.or_eq_false_iff] at q1
      exact⟨by simpa [Bc] using q1.2,q1.1,q2⟩
    refine⟨?_,fun c hc=>?_⟩
    · rw [List.nodup_append]
      refine⟨?_,h1,fun c hc d hd=>?_⟩
      · unfold Gz
        rw [(E5 _ _).nodup_iff]
        exact List.Pairwise.filter _ (DB _)
      rintro rfl
      exact(hg c hd).1 hc
    rcases List.mem_append.1 hc with hc | hc
    · have:=K9.1 hc
      exact⟨this.2.1,this.1⟩
    exact(hg c hc).2
def GO (y:Am) (lanes order broken:List Int):List (List Int):=Cs y lanes order (fun _=>false) (Bk y (Bc broken))
def Fz (y:Am) (lanes order broken:List Int):List Int:=(Ah y.lG.length).filter (Bc (GO y lanes order broken).flatten)
theorem Kj:∀ n,(Ah n).Pairwise (·≤·)
  | 0=>by simp [Ah]
  | n+1=>by
    rw [Co,List.pairwise_append]
    refine⟨Kj n,by simp,fun a ha b hb=>?_⟩
    rw [Aq] at ha
    simp at hb
    omega
theorem RJ {y:Am} {m:List Int} (hn:m.Nodup) (hm:∀ c∈m,c∈Ah y.lG.length):m.length≤y.lG.length:=by
  rcases Nat.lt_or_ge y.lG.length m.length with h | h
  · exfalso
    have h2:=SW (m.take y.lG.length) (Ah y.lG.length) (List.Pairwise.sublist (List.take_sublist _ _) hn) (fun x hx=>hm x (List.mem_of_mem_take hx)) (by rw [AU,Yl]; omega)
    have h3:=hm _ (Yh h)
    have h4:=h2 _ h3
    have h5:(m.take y.lG.length++m.drop y.lG.length).Nodup:=by rw [List.take_append_drop]; exact hn
    rw [List.nodup_append] at h5
    exact h5.2.2 _ h4 m[y.lG.length] (by rw [BG h]; exact List.mem_cons_self) rfl
  exact h
theorem RK {y:Am} {m:List Int} (hn:m.Nodup) (hm:∀ c∈m,c∈Ah y.lG.length) (hb:y.lG.length≤1000):Qo m=some ((Ah y.lG.length).filter (Bc m)):=by
  refine Vk ?_ ?_ ?_
  · refine(List.perm_ext_iff_of_nodup hn (List.Pairwise.filter _ (DB _))).2 fun c=>?_
    rw [Yv]
    constructor
    · exact fun hc=>⟨hm c hc,by simpa [Bc] using hc⟩
    exact fun hc=>by simpa [Bc] using hc.2
  · exact List.Pairwise.filter _ (Kj _)
  have:=RJ hn hm
  omega
theorem U4 (n:Nat) (y:Am) (lanes order broken:List Int) (hr:y.room.length≤100) (hb:y.lG.length≤100) (h1:lanes.length≤100) (h2:order.length≤100) (h3:broken.length≤100) (hn:200≤n) :
    Ft n y lanes order broken=some (if CJ y lanes order broken=0 then Fz y lanes order broken else [],CJ y lanes order broken):=by
  unfold Ft
  obtain⟨x,e1,e2⟩:=RH n y lanes order broken hr hb h1 h2 h3 hn
  rw [e1,Yg]
  by_cases ha:CJ y lanes order broken=0
  · have hf:Cr y=0:=by
      unfold CJ at ha
      split at ha
      · assumption
      exact ha
    obtain⟨v1,v0,v2,v3,v4,v5,v6⟩:=DK hf
    have hok:Hs y lanes order broken=true:=by
      unfold CJ at ha
      rw [if_pos hf] at ha
      split at ha
      · assumption
      omega
    unfold Hs at hok
    simp only [Yp] at hok
    have hll:lanes.length=y.lG.length:=by have:=hok.1; unfold DX at this; simp at this; exact this.1
    rw [e2 ha,ha,bne_self_eq_false,cond_false,O2 n y lanes order broken hll v2 v5 (by omega) (by omega),Yg]
    obtain⟨s1,s2⟩:=Ki y lanes order (Bk y (Bc broken)) fun _=>false
    have hfl:=RJ s1 (fun c hc=>(s2 c hc).2)
    have htl:=GS y (Bc broken)
    rw [U3 n _ (by rw [GH]; omega) (by omega) (by rw [GH]; omega),Yg,RK s1 (fun c hc=>(s2 c hc).2) (by omega)]
    rfl
  have hne:(CJ y lanes order broken != 0)=true:=by simp [ha]
  rw [hne,cond_true,if_neg ha]
theorem SX (n:Nat) (y:Am) (lanes order broken:List Int) (hr:y.room.length≤100) (hb:y.lG.length≤100) (h1:lanes.length≤100) (h2:order.length≤100) (h3:broken.length≤100) (hn:200≤n) :
    F0 n y lanes order broken=some (if CJ y lanes order broken=0 then GO y lanes order broken else [],CJ y lanes order broken):=by
  unfold F0
  obtain⟨x,e1,e2⟩:=RH n y lanes order broken hr hb h1 h2 h3 hn
  rw [e1,Yg]
  by_cases ha:CJ y lanes order broken=0
  · have hf:Cr y=0:=by
      unfold CJ at ha
      split at ha
      · assumption
      exact ha
    obtain⟨v1,v0,v2,v3,v4,v5,v6⟩:=DK hf
    have hok:Hs y lanes order broken=true:=by
      unfold CJ at ha
      rw [if_pos hf] at ha
      split at ha
      · assumption
      omega
    unfold Hs at hok
    simp only [Yp] at hok
    have hll:lanes.length=y.lG.length:=by have:=hok.1; unfold DX at this; simp at this; exact this.1
    rw [e2 ha,ha,bne_self_eq_false,cond_false,O2 n y lanes order broken hll v2 v5 (by omega) (by omega),Yg]
    rfl
  have hne:(CJ y lanes order broken != 0)=true:=by simp [ha]
  rw [hne,cond_true,if_neg ha]
open Go Go.RowKit
def wd (words:List (IK .u16)) (k:Int):Int:=if words.length=0 then 0 else(words.getD (Int.tmod k (words.length:Int)).toNat ⟨0⟩).n
theorem O4 {k m:Int} (hk:0≤k) (hm:0<m):0≤Int.tmod k m∧Int.tmod k m<m:=by
  rw [Int.tmod_eq_emod_of_nonneg hk]
  exact⟨Int.emod_nonneg _ (by omega),Int.emod_lt_of_pos _ hm⟩
theorem WH {b:Int} (h:b≠0):nz b=some ():=by unfold nz; rw [if_neg h]
def X1 (y:Am) (words:List (IK .u16)) (b:Int):Int :=
  if Int.tmod (wd words b) 3=0 then(Aw y b).lo else if Int.tmod (wd words b) 3=1 then(Aw y b).hi
  else(Aw y b).lo+Int.tmod (Int.tdiv (wd words b) 3) ((Aw y b).hi-(Aw y b).lo+1)
def keyOf (y:Am) (words:List (IK .u16)) (b:Int):Int:=2*X1 y words b+Int.tmod (wd words (2*b+1)) 2
theorem RL (y:Am):∀ (l pre:List Int),(pre++l).Nodup→(∀ b∈l,b∈Ah y.lG.length)→(pre++l).Pairwise (fun a b=>(Aw y a).lo≤(Aw y b).hi)→IW y pre l=true
  | [],pre,_,_,_=>rfl
  | b::r,pre,hn,hm,hp=>by
    unfold IW RA
    have h1:Ei b 0 ((y.lG.length:Int)-1)=true:=Fq.2 (hm b (by simp))
    have hn2:=hn
    rw [List.nodup_append] at hn2
    have h2:pre.contains b=false:=by
      have:b ∉ pre:=fun h=>hn2.2.2 b h b (by simp) rfl
      simpa using this
    have hp2:=hp
    rw [List.pairwise_append] at hp2
    have h3:(pre.any fun k=>decide ((Aw y b).hi<(Aw y k).lo))=false:=by
      rw [List.any_eq_false]
      intro k hk
      have:=hp2.2.2 k hk b (by simp)
      simp
      omega
    rw [h1,h2,h3]
    simp only [Bool.or_self,Bool.not_false,Bool.and_self,Yr]
    exact RL y r (pre++[b]) (by simpa using hn) (fun c hc=>hm c (by simp [hc])) (by simpa using hp)
theorem RM (y:Am):∀ (l:List Int)(last:Int),(last::l).Pairwise (· < ·)→(∀ b∈l,b∈Ah y.lG.length)→Lu y last l=true
  | [],_,_,_=>rfl
  | b::r,last,hp,hm=>by
    unfold Lu
    rw [Yt] at hp
    rw [Fq.2 (hm b (by simp)),decide_eq_true (hp.1 b (by simp)),Yr,Yr]
    exact RM y r b hp.2 fun c hc=>hm c (by simp [hc])
theorem Nx (room:List Int):∀ (l pre:List Int)(x:Int),DW room pre (l++[x])=(DW room pre l && (Ei x 0 ((room.length:Int)-1) && decide (((pre++l).count x:Int)<Cb room x)))
  | [],pre,x=>by simp [DW]
  | b::r,pre,x=>by
    rw [List.cons_append,DW,DW,Nx room r (pre++[b]) x]
    simp [Bool.and_assoc]
open Go Go.RowKit
def KB (lanes order:List Int) (c:Int):List Int→Bool
  | []=>false
  | b::r=>SU lanes order c b || (c != b && KB lanes order c r)
theorem L0 (y:Am) (lanes order:List Int) (c:Int):∀ (ts:List Int)(g:Int→Bool),c∈(Cs y lanes order g ts).flatten↔c∈Ah y.lG.length∧g c=false∧KB lanes order c ts=true
  | [],g=>by simp [Cs,KB]
  | b::r,g=>by
    rw [Cs,List.flatten_cons,List.mem_append,K9,L0 y lanes order c r,KB]
    unfold Kh
    simp only [Bool.or_eq_true,Yp,bne_iff_ne]
    constructor
    · rintro(⟨h1,h2,h3⟩ | ⟨h1,h2,h3⟩)
      · exact⟨h1,h2,.inl h3⟩
      split at h2
      · cases h2
      rename_i hne
      simp only [Bool.or_eq_false_iff] at h2
      exact⟨h1,h2.1,.inr ⟨hne,h3⟩⟩
    rintro⟨h1,h2,h3 | ⟨h3,h4⟩⟩
    · exact .inl ⟨h1,h2,h3⟩
    cases hq:SU lanes order c b with
    | true=>exact .inl ⟨h1,h2,rfl⟩
    | false =>
      refine .inr ⟨h1,?_,h4⟩
      rw [if_neg h3,h2,Yi]
      cases hs:Bc (Gz y lanes order g b) c with
      | false=>rfl
      | true =>
        have:c∈Gz y lanes order g b:=by simpa [Bc] using hs
        rw [(K9.1 this).2.2] at hq
        cases hq
theorem SY (lanes order:List Int) (c:Int):SU lanes order c c=false:=by simp [SU]
theorem O5 (key:Int→Int) (lanes order:List Int) (c:Int):∀ ts:List Int,ts.Pairwise (fun a b=>key a<key b)→(KB lanes order c ts=true↔∃ b∈ts,SU lanes order c b=true∧(c∈ts→key b<key c))
  | [],_=>by simp [KB]
  | b::r,hp=>by
    rw [Yt] at hp
    have ih:=O5 key lanes order c r hp.2
    rw [KB]
    simp only [Bool.or_eq_true,Yp,bne_iff_ne,ih]
    constructor
    · rintro(h | ⟨hne,d,hd,h1,h2⟩)
      · refine⟨b,by simp,h,fun hc=>?_⟩
        rcases List.mem_cons.1 hc with rfl | hc
        · rw [SY] at h; cases h
        exact hp.1 c hc
      refine⟨d,by simp [hd],h1,fun hc=>?_⟩
      rcases List.mem_cons.1 hc with rfl | hc
      · exact absurd rfl hne
      exact h2 hc
    rintro⟨d,hd,h1,h2⟩
    rcases List.mem_cons.1 hd with rfl | hd
    · exact .inl h1
    by_cases hcb:c=b
    · exfalso
      have h3:=h2 (by simp [hcb])
      have h4:=hp.1 d hd
      rw [hcb] at h3
      omega
    exact .inr ⟨hcb,d,hd,h1,fun hc=>h2 (by simp [hc])⟩
theorem Qa:∀ (l s:List Int),GR s l=false→(∀ t∈l,t ∉ s)∧l.Nodup
  | [],s,_=>by simp
  | t::r,s,h=>by
    unfold GR at h
    simp only [Bool.or_eq_false_iff] at h
    obtain⟨h1,h2⟩:=h
    obtain⟨q1,q2⟩:=Qa r (s++[t]) h2
    have h1':t ∉ s:=by simpa using h1
    refine⟨fun u hu=>?_,?_⟩
    · rcases List.mem_cons.1 hu with rfl | hu
      · exact h1'
      exact fun hs=>q1 u hu (by simp [hs])
    rw [List.nodup_cons]
    exact⟨fun hm=>q1 t hm (by simp),q2⟩
theorem RN {y:Am} (hd:GR [] (y.lG.map (·.turn))=false) {a b:Int} (ha:a∈Ah y.lG.length) (hb:b∈Ah y.lG.length) (h:CR y a=CR y b):a=b:=by
  have hn:=(Qa _ _ hd).2
  rw [Aq] at ha hb
  have hal:a.toNat<(y.lG.map (·.turn)).length:=by rw [List.length_map]; omega
  have hbl:b.toNat<(y.lG.map (·.turn)).length:=by rw [List.length_map]; omega
  have h1:(y.lG.map (·.turn))[a.toNat]=(y.lG.map (·.turn))[b.toNat]:=by
    rw [List.getElem_map,List.getElem_map]
    unfold CR Aw at h
    rw [List.length_map] at hal hbl
    simpa [Yo,Yf hal,Yf hbl] using h
  have:=(List.getElem_inj hn).1 h1
  omega
theorem Gc {y:Am} (hd:GR [] (y.lG.map (·.turn))=false) (f:Int→Bool):(Bk y f).Pairwise fun a b=>CR y a<CR y b:=by
  have h1:=Oy (CR y) (M8 y f)
  have h2:=Ij y f
  have h3:(Bk y f).Pairwise fun a b=>CR y a≤CR y b∧a≠b:=h1.and h2
  refine List.Pairwise.imp_of_mem (fun {a b} ha hb h=>?_) h3
  rcases Int.lt_or_eq_of_le h.1 with h4 | h4
  · exact h4
  exact absurd (RN hd (Cf.1 ha).1 (Cf.1 hb).1 h4) h.2
def Xm (y:Am) (lanes order broken:List Int) (c b:Int):Prop:=b∈Ah y.lG.length∧Bc broken b=false∧SU lanes order c b=true∧(Bc broken c=false→CR y b<CR y c)
theorem SZ {y:Am} (hd:GR [] (y.lG.map (·.turn))=false) (lanes order broken:List Int) (c:Int):c∈Fz y lanes order broken↔c∈Ah y.lG.length∧∃ b,Xm y lanes order broken c b:=by
  unfold Fz GO
  rw [Yv]
  have h1:Bc (Cs y lanes order (fun _=>false) (Bk y (Bc broken))).flatten c=true↔c∈(Cs y lanes order (fun _=>false) (Bk y (Bc broken))).flatten:=by simp [Bc]
  rw [h1,L0,O5 (CR y) lanes order c _ (Gc hd _)]
  constructor
  · rintro⟨hc,_,_,b,hb,h2,h3⟩
    have hb':=Cf.1 hb
    exact⟨hc,b,hb'.1,hb'.2,h2,fun hq=>h3 (Cf.2 ⟨hc,hq⟩)⟩
  rintro⟨hc,b,hb,h2,h3,h4⟩
  exact⟨hc,hc,rfl,b,Cf.2 ⟨hb,h2⟩,h3,fun hq=>h4 (Cf.1 hq).2⟩
theorem O6 {y:Am} {l:List Int} (h:HL y l=true):l.Pairwise (· < ·)∧(∀ b∈l,b∈Ah y.lG.length)∧(l.length:Int)≤y.broken:=by
  unfold HL at h
  simp only [Yp,decide_eq_true_eq] at h
  have key:∀ (l:List Int)(last:Int),Lu y last l=true→(last::l).Pairwise (· < ·)∧∀ b∈l,b∈Ah y.lG.length:=by
    intro l
    induction l with
    | nil=>intro last _; simp
    | cons b r ih =>
      intro last hq
      unfold Lu at hq
      simp only [Yp,decide_eq_true_eq] at hq
      obtain⟨q1,q2⟩:=ih b hq.2.2
      refine⟨?_,fun c hc=>?_⟩
      · rw [Yt]
        refine⟨fun c hc=>?_,q1⟩
        rcases List.mem_cons.1 hc with rfl | hc
        · exact hq.2.1
        rw [Yt] at q1
        have:=q1.1 c hc
        omega
      rcases List.mem_cons.1 hc with rfl | hc
      · exact Fq.1 hq.1
      exact q2 c hc
  obtain⟨q1,q2⟩:=key l (-1) h.1
  rw [Yt] at q1
  exact⟨q1.2,q2,h.2⟩
theorem Vp {y:Am} {l:List Int} (h1:l.Pairwise (· < ·)) (h2:∀ b∈l,b∈Ah y.lG.length) (h3:(l.length:Int)≤y.broken):HL y l=true:=by
  unfold HL
  rw [decide_eq_true h3,Bool.and_true]
  refine RM y l (-1) ?_ h2
  rw [Yt]
  exact⟨fun b hb=>by have:=Aq.1 (h2 b hb); omega,h1⟩
theorem O7 (y:Am):∀ (l pre:List Int),IW y pre l=true→l.Pairwise (fun a b=>(Aw y a).lo≤(Aw y b).hi)∧∀ a∈pre,∀ b∈l,(Aw y a).lo≤(Aw y b).hi
  | [],pre,_=>by simp
  | b::r,pre,h=>by
    unfold IW RA at h
    simp only [Yp,Bool.not_eq_true',Bool.or_eq_false_iff] at h
    obtain⟨⟨h1,h2,h3⟩,h4⟩:=h
    obtain⟨q1,q2⟩:=O7 y r (pre++[b]) h4
    have h5:∀ a∈pre,(Aw y a).lo≤(Aw y b).hi:=fun a ha=>by
      have:=List.any_eq_false.1 h3 a ha
      simp at this
      exact this
    refine⟨?_,fun a ha c hc=>?_⟩
    · rw [Yt]
      exact⟨fun c hc=>q2 b (by simp) c hc,q1⟩
    rcases List.mem_cons.1 hc with rfl | hc
    · exact h5 a ha
    exact q2 a (by simp [ha]) c hc
open Go Go.RowKit
theorem O8 {l:List Int} {x:Int}:Bc l x=true↔x∈l:=by simp [Bc]
open Go Go.RowKit
def inl (lanes:List Int) (l b:Int):Bool:=Bn lanes b == l
section
variable {y:Am} {lanes:List Int} {l:Int}
end
theorem Qb (room:List Int):∀ (l pre:List Int),DW room pre l=true→∀ b∈l,Ei b 0 ((room.length:Int)-1)=true
  | [],_,_,b,h=>by simp at h
  | a::r,pre,h,b,hb=>by
    rw [DW] at h
    simp only [Yp] at h
    rcases List.mem_cons.1 hb with rfl | hb
    · exact h.1
    exact Qb room r _ h.2.2 b hb
open Go Go.RowKit
def Xn (x:A0) (b t:Int):A0:=(A0.setI x b t).getD x
theorem TG (x:A0) {b:Int} (h0:0≤b) (h8:b<8) (t:Int):A0.setI x b t=some (Xn x b t):=by
  rcases x with⟨x0,x1,x2,x3,x4,x5,x6,x7⟩
  rcases PX h0 h8 with h | h | h | h | h | h | h | h <;> subst h <;> rfl
def Gj (b t last:Int) (f:AX):AX:=⟨if t≤last then f.many+1 else f.many,Xn f.tm b t⟩
def MB (y:Am) (down:Int):List Int→Int→Int→AX
  | [],_,_=>⟨0,⟨0,0,0,0,0,0,0,0⟩⟩
  | b::r,i,last =>
    bif decide ((Gj b (Aw y b).hi last (MB y down r (i+1) (if i<down then max last (Aw y b).hi else last))).many>(Gj b (Aw y b).lo last (MB y down r (i+1) (if i<down then max last (Aw y b).lo else last))).many)
    then Gj b (Aw y b).hi last (MB y down r (i+1) (if i<down then max last (Aw y b).hi else last))
    else Gj b (Aw y b).lo last (MB y down r (i+1) (if i<down then max last (Aw y b).lo else last))
theorem Ny {b t last:Int} {f:AX} {k:Nat} (h:0≤f.many∧f.many≤k):0≤(Gj b t last f).many∧(Gj b t last f).many≤((k+1:Nat):Int):=by
  unfold Gj
  simp only
  split <;> omega
theorem GP (y:Am) (down:Int):∀ (l:List Int)(i last:Int),0≤(MB y down l i last).many∧(MB y down l i last).many≤l.length
  | [],_,_=>by simp [MB]
  | b::r,i,last=>by
    have h1:=Ny (b:=b) (t:=(Aw y b).hi) (last:=last) (GP y down r (i+1) (if i<down then max last (Aw y b).hi else last))
    have h2:=Ny (b:=b) (t:=(Aw y b).lo) (last:=last) (GP y down r (i+1) (if i<down then max last (Aw y b).lo else last))
    unfold MB
    rw [Yu]
    cases decide ((Gj b (Aw y b).hi last (MB y down r (i+1) (if i<down then max last (Aw y b).hi else last))).many>(Gj b (Aw y b).lo last (MB y down r (i+1) (if i<down then max last (Aw y b).lo else last))).many) with
    | true=>exact h1
    | false=>exact h2
def RO (y:Am) (c:A4) (known:List (B7×AX)):Prop:=∀ (s:B7)(f:AX),DA known s=some f→f=MB y c.down (c.lG.drop s.behind.toNat) s.behind s.last
theorem RO.nil (y:Am) (c:A4):RO y c []:=fun s f h=>by simp [DA] at h
theorem RO.put {y:Am} {c:A4} {known:List (B7×AX)} (h:RO y c known) {s:B7} {f:AX} (hf:f=MB y c.down (c.lG.drop s.behind.toNat) s.behind s.last):RO y c (Hp known s f):=fun s' f' h'=>by
  rw [HH] at h'
  split at h'
  · rename_i he
    subst he
    cases h'
    exact hf
  exact h s' f' h'
theorem KC {y:Am} {c:A4} (hb:y.lG.length≤8) (hc:∀ b∈c.lG,b∈Ah y.lG.length) (hl:c.lG.length≤1000):∀ (r n i:Nat)(last:Int)(known:List (B7×AX)),3*r+5≤n→i+r=c.lG.length→RO y c known →
    ∃ known',lane_Yard_worst_1 n ⟨(i:Int),last⟩ c known y=some (MB y c.down (c.lG.drop i) (i:Int) last,known')∧RO y c known'
  | 0,n,i,last,known,hn,hi,hm=>by
    obtain⟨n,rfl⟩:∃ m,n=m+1:=⟨n-1,by omega⟩
    have:i=c.lG.length:=by omega
    subst this
    refine⟨known,?_,hm⟩
    rw [lane_Yard_worst_1]
    simp [MB]
  | r+1,n,i,last,known,hn,hi,hm=>by
    obtain⟨n,rfl⟩:∃ m,n=m+4:=⟨n-4,by omega⟩
    have hil:i<c.lG.length:=by omega
    rw [lane_Yard_worst_1]
    have e0:((i:Int) == ((c.lG.length:Nat):Int))=false:=by
      cases hq:((i:Int) == ((c.lG.length:Nat):Int)) with
      | false=>rfl
      | true=>rw [beq_iff_eq] at hq; omega
    dsimp only
    rw [e0,cond_false]
    simp only [Yg]
    unfold ES
    cases hk:DA known ⟨(i:Int),last⟩ with
    | some f =>
      have:=hm _ _ hk
      simp only [Int.toNat_natCast] at this
      exact⟨known,by simp [this],hm⟩
    | none =>
      have hbm:=hc _ (Yh hil)
      have hbr:=Aq.1 hbm
      have h8:c.lG[i]<8:=by omega
      simp only [cond_false,BX _ _ hil,Yg,JM]
      obtain⟨k1,a1,m1⟩:=KC hb hc hl r (n+2) (i+1) (if (i:Int)<c.down then max last (Aw y c.lG[i]).lo else last) known (by omega) (by omega) hm
      obtain⟨k2,a2,m2⟩:=KC hb hc hl r (n+1) (i+1) (if (i:Int)<c.down then max last (Aw y c.lG[i]).hi else last) k1 (by omega) (by omega) m1
      obtain⟨n,rfl⟩:∃ m,n=m+1:=⟨n-1,by omega⟩
      have w0:IntKind.i64.wrap ((i:Int)+1)=((i+1:Nat):Int):=Da i (by omega)
      have r1:=GP y c.down (c.lG.drop (i+1)) ((i:Int)+1) (if (i:Int)<c.down then max last (Aw y c.lG[i]).lo else last)
      have r2:=GP y c.down (c.lG.drop (i+1)) ((i:Int)+1) (if (i:Int)<c.down then max last (Aw y c.lG[i]).hi else last)
      rw [List.length_drop] at r1 r2
      rw [show((i+1:Nat):Int)=(i:Int)+1 by omega] at a1 a2 w0
      have wy1:AN (n+4) ⟨(i:Int),last⟩ c y c.lG[i] [Cg.mk fun y0=>B1 (n+4) y0,Cg.mk fun y0=>Bo (n+4) y0] 0 ⟨0,0,0,0,0,0,0,0⟩ 0 known =
          some ((MB y c.down (c.lG.drop i) (i:Int) last).tm,(MB y c.down (c.lG.drop i) (i:Int) last).many,k2):=by
        have last1:((bif decide ((i:Int)<c.down) then((CN (n+3) ([last,(Aw y c.lG[i]).lo]:List Int)).bind fun x67=>some x67) else some last):Option Int)=some (if (i:Int)<c.down then max last (Aw y c.lG[i]).lo else last):=by
          by_cases hd:(i:Int)<c.down
          · rw [decide_eq_true hd,cond_true,Oa (n+1),if_pos hd]; rfl
          rw [decide_eq_false hd,cond_false,if_neg hd]
        have last2:((bif decide ((i:Int)<c.down) then((CN (n+2) ([last,(Aw y c.lG[i]).hi]:List Int)).bind fun x67=>some x67) else some last):Option Int)=some (if (i:Int)<c.down then max last (Aw y c.lG[i]).hi else last):=by
          by_cases hd:(i:Int)<c.down
          · rw [decide_eq_true hd,cond_true,Oa n,if_pos hd]; rfl
          rw [decide_eq_false hd,cond_false,if_neg hd]
        have many1:∀ (t:Int)(f:AX),0≤f.many∧f.many≤1000→((bif decide (t≤last) then some (IntKind.i64.wrap (f.many+1)) else some f.many):Option Int)=some (Gj c.lG[i] t last f).many:=fun t f hf=>by
          unfold Gj
          by_cases hd:t≤last
          · rw [decide_eq_true hd,cond_true,IS (by omega) (by omega)]; simp [hd]
          rw [decide_eq_false hd,cond_false]; simp [hd]
        have z1:IntKind.i64.wrap (0+1)=1:=by decide
        have z2:IntKind.i64.wrap (1+1)=2:=by decide
        rw [AN]
        rw [show decide ((0:Int)<((([Cg.mk fun y0=>B1 (n+4) y0,Cg.mk fun y0=>Bo (n+4) y0]:List Cg).length:Nat):Int))=true from rfl,cond_true]
        rw [show Bm [Cg.mk fun y0=>B1 (n+4) y0,Cg.mk fun y0=>Bo (n+4) y0] (0:Int)=some (Cg.mk fun y0=>B1 (n+4) y0) from rfl]
        simp only [Yg,Lq y (Fq.2 hbm),B1,last1,w0,a1]
        rw [many1 _ _ ⟨r1.1,by omega⟩]
        simp only [Yg,beq_self_eq_true,cond_true,Ls hbr.1 h8,TG _ hbr.1 h8,z1]
        rw [AN]
        rw [show decide ((1:Int)<((([Cg.mk fun y0=>some y0.lo,Cg.mk fun y0=>Bo (n+4) y0]:List Cg).length:Nat):Int))=true from rfl,cond_true]
        rw [show Bm [Cg.mk fun y0=>some y0.lo,Cg.mk fun y0=>Bo (n+4) y0] (1:Int)=some (Cg.mk fun y0=>Bo (n+4) y0) from rfl]
        simp only [Yg,Lq y (Fq.2 hbm),Bo,last2,w0,a2]
        rw [many1 _ _ ⟨r2.1,by omega⟩]
        rw [show((1:Int) == 0)=false from rfl]
        simp only [Yg,cond_false,Ls hbr.1 h8,TG _ hbr.1 h8,z2]
        rw [AN,AN]
        rw [show ∀ (q:List Cg),q=[Cg.mk fun y0=>some y0.lo,Cg.mk fun y0=>some y0.hi]→decide ((2:Int)<((q.length:Nat):Int))=false from fun q hq=>by rw [hq]; rfl] <;> try rfl
        simp only [cond_false]
        conv=>rhs; rw [BG hil,MB]
        cases decide ((Gj c.lG[i] (Aw y c.lG[i]).hi last (MB y c.down (c.lG.drop (i+1)) ((i:Int)+1) (if (i:Int)<c.down then max last (Aw y c.lG[i]).hi else last))).many>(Gj c.lG[i] (Aw y c.lG[i]).lo last (MB y c.down (c.lG.drop (i+1)) ((i:Int)+1) (if (i:Int)<c.down then max last (Aw y c.lG[i]).lo else last))).many) <;> rfl
      refine⟨Hp k2 ⟨(i:Int),last⟩ (MB y c.down (c.lG.drop i) (i:Int) last),?_,m2.put (by simp only [Int.toNat_natCast])⟩
      rw [wy1]
      rfl
theorem Vq (n:Nat) {y:Am} {c:A4} (hb:y.lG.length≤8) (hc:∀ b∈c.lG,b∈Ah y.lG.length) (hl:c.lG.length≤1000) (hn:3*c.lG.length+5≤n):De n y c=some (MB y c.down c.lG 0 (-1)):=by
  unfold De
  obtain⟨k,h1,_⟩:=KC hb hc hl c.lG.length n 0 (-1) [] hn (by omega) (RO.nil y c)
  rw [show((0:Nat):Int)=0 from rfl,Yj] at h1
  rw [h1]
  rfl
open Go Go.RowKit
section
variable {α:Type}
def CG (m:Nat) (g:Int→α):List α:=(Ah m).map g
theorem IZ (m:Nat) (g:Int→α):(CG m g).length=m:=by simp [CG,AU]
theorem O9 {m:Nat} {g:Int→α} {k:Nat} (h:k<m):(CG m g)[k]? = some (g (k:Int)):=by
  unfold CG Ah
  rw [Yy,Yy,List.getElem?_range h]
  rfl
theorem Ja {m:Nat} {g:Int→α} {b:Int} (h:Ei b 0 ((m:Int)-1)=true):Bm (CG m g) b=some (g b):=by
  rw [AE] at h
  obtain⟨k,rfl⟩:=Yn h.1
  rw [QD,O9 (by omega)]
theorem RP {m:Nat} {g:Int→α} {l:List α} (hl:l.length=m) (h:∀ k,k<m→l[k]? = some (g (k:Int))):l=CG m g:=by
  apply List.ext_getElem?
  intro k
  rcases Nat.lt_or_ge k m with hk | hk
  · rw [h k hk,O9 hk]
  rw [List.getElem?_eq_none (by omega),List.getElem?_eq_none (by rw [IZ]; omega)]
theorem L3 {m:Nat} {g:Int→α} {b:Int} {v:α} (h:Ei b 0 ((m:Int)-1)=true):upd (CG m g) b v=some (CG m fun x=>if x=b then v else g x):=by
  rw [AE] at h
  obtain⟨k,rfl⟩:=Yn h.1
  rw [Xl _ _ _ (by rw [IZ]; omega)]
  congr 1
  refine RP (by rw [List.length_set,IZ]) fun j hj=>?_
  by_cases hjk:j=k
  · subst hjk
    rw [Yz (by rw [IZ]; omega)]
    simp
  rw [List.getElem?_set_ne (Ne.symm hjk),O9 hj,if_neg (by omega)]
theorem MC (m:Nat) (x:α):List.replicate m x=CG m fun _=>x:=RP (by simp) fun k hk=>by
  rw [List.getElem?_replicate,if_pos hk]
theorem Im {m:Nat} {f g:Int→α} (h:∀ x,f x=g x):CG m f=CG m g:=by rw [funext h]
end
def D9 (y:Am) (lanes:List Int) (f:Int→Bool) (k:Int):A4 :=
  ⟨(Bk y f).filter (inl lanes k)++((Ah y.lG.length).filter f).filter (inl lanes k),(((Bk y f).filter (inl lanes k)).length:Int)⟩
def Fs (y:Am) (lanes:List Int) (f:Int→Bool):List A4:=CG y.room.length (D9 y lanes f)
def G8 (lanes:List Int) (ts:List Int) (k:Int):A4:=⟨ts.filter (inl lanes k),((ts.filter (inl lanes k)).length:Int)⟩
theorem Ta (lanes ts:List Int) (b k:Int):G8 lanes (ts++[b]) k=if k=Bn lanes b then⟨(G8 lanes ts k).lG++[b],(G8 lanes ts k).down+1⟩ else G8 lanes ts k:=by
  unfold G8
  rw [Yx]
  by_cases h:k=Bn lanes b
  · have:inl lanes k b=true:=by simp [inl,h]
    rw [if_pos h]
    simp [this]
  have:inl lanes k b=false:=by
    unfold inl
    cases hq:(Bn lanes b == k) with
    | false=>rfl
    | true=>rw [beq_iff_eq] at hq; exact absurd hq.symm h
  rw [if_neg h]
  simp [this]
theorem L4 (y:Am) (lanes:List Int) (hl:lanes.length=y.lG.length) (hin:∀ b∈Ah y.lG.length,Ei (Bn lanes b) 0 ((y.room.length:Int)-1)=true)
    (step:List A4→Int→Option (List A4))
    (hstep:step=fun s x19=>((Bm lanes x19).bind fun x23=>((Bm s x23).bind fun x25=>((Ih x25.lG ([x19]:List Int)).bind fun x33=>((upd s x23 ({ x25 with lG:=x33 }:A4)).bind fun u_144 =>
      ((upd u_144 x23 ({ ({ x25 with lG:=x33 }:A4) with down:=IntKind.i64.wrap (x25.down+1) }:A4)).bind fun u_169=>some u_169)))))) :
    ∀ (ts done:List Int),(∀ b∈ts,b∈Ah y.lG.length)→done.length+ts.length≤1000→ts.foldlM step (CG y.room.length (G8 lanes done))=some (CG y.room.length (G8 lanes (done++ts)))
  | [],done,_,_=>by simp
  | b::r,done,h,hlen=>by
    have hb:=h b (by simp)
    have hbr:=Aq.1 hb
    have hbt:=hin b hb
    have hpl:(done.filter (inl lanes (Bn lanes b))).length≤done.length:=Yw _ _
    have hs:step (CG y.room.length (G8 lanes done)) b=some (CG y.room.length (G8 lanes (done++[b]))):=by
      rw [hstep]
      simp only [Lw lanes hbr.1 (show b<lanes.length by omega),Yg,Ja hbt]
      rw [Ee _ _ (by unfold G8; simp at hlen ⊢; omega)]
      simp only [Yg,L3 hbt]
      congr 1
      refine Im fun k=>?_
      rw [Ta]
      by_cases hk:k=Bn lanes b
      · rw [if_pos hk,if_pos hk,hk]
        congr 1
        unfold G8
        simp at hlen
        exact IS (by simp only; omega) (by simp only; omega)
      rw [if_neg hk,if_neg hk,if_neg hk]
    rw [List.foldlM_cons,hs]
    show r.foldlM step (CG y.room.length (G8 lanes (done++[b])))=_
    rw [L4 y lanes hl hin step hstep r (done++[b]) (fun c hc=>h c (by simp [hc])) (by simp at hlen ⊢; omega),List.append_assoc]
    rfl
def HM (y:Am) (lanes:List Int) (f:Int→Bool) (i:Nat) (k:Int):A4 :=
  ⟨(Bk y f).filter (inl lanes k)++((Ah i).filter f).filter (inl lanes k),(((Bk y f).filter (inl lanes k)).length:Int)⟩
theorem Kk (y:Am) (lanes:List Int) (f:Int→Bool) (hy:y.lG.length≤8) (hl:lanes.length=y.lG.length) (hin:∀ b∈Ah y.lG.length,Ei (Bn lanes b) 0 ((y.room.length:Int)-1)=true):∀ (n i:Nat),y.lG.length<n+i→i≤y.lG.length →
    Bp n y lanes (A2 f) (CG y.room.length (HM y lanes f i)) (i:Int)=some (Fs y lanes f)
  | 0,i,h,hi=>by omega
  | n+1,i,h,hi=>by
    rw [Bp,Bz]
    by_cases hx:i<y.lG.length
    · have h0:(0:Int)≤(i:Int):=by omega
      have h8:(i:Int)<8:=by omega
      have hm:(i:Int)∈Ah y.lG.length:=by rw [Aq]; omega
      have hbt:=hin _ hm
      have ih:=Kk y lanes f hy hl hin n (i+1) (by omega) (by omega)
      simp only [hx,decide_true,cond_true,Ls h0 h8,Lt _ h0 h8,Yg]
      rw [Da i (by omega)]
      cases hf:f (i:Int) with
      | false =>
        have e1:CG y.room.length (HM y lanes f i)=CG y.room.length (HM y lanes f (i+1)):=Im fun k=>by
          unfold HM
          rw [Co,Yx]
          simp [hf]
        simp only [cond_false]
        rw [e1]
        exact ih
      | true =>
        have hl1:=Yw (inl lanes (Bn lanes (i:Int))) (Bk y f)
        have hl2:=Yw (inl lanes (Bn lanes (i:Int))) ((Ah i).filter f)
        have hl3:=Yw f (Ah i)
        rw [AU] at hl3
        have hl4:=GS y f
        simp only [cond_true,Lw lanes h0 (show(i:Int)<lanes.length by omega),Yg,Ja hbt]
        rw [Ee _ _ (by unfold HM; rw [Y1,List.length_singleton]; omega)]
        simp only [Yg,L3 hbt]
        have e1:(CG y.room.length fun x=>if x=Bn lanes (i:Int) then({ HM y lanes f i (Bn lanes (i:Int)) with lG:=(HM y lanes f i (Bn lanes (i:Int))).lG++[(i:Int)] }:A4) else HM y lanes f i x)=CG y.room.length (HM y lanes f (i+1)):=Im fun k=>by
          by_cases hk:k=Bn lanes (i:Int)
          · have hq:inl lanes k (i:Int)=true:=by simp [inl,hk]
            rw [if_pos hk,← hk]
            unfold HM
            rw [Co,Yx,Yx]
            simp [hf,hq]
          have hq:inl lanes k (i:Int)=false:=by
            unfold inl
            cases hz:(Bn lanes (i:Int) == k) with
            | false=>rfl
            | true=>rw [beq_iff_eq] at hz; exact absurd hz.symm hk
          rw [if_neg hk]
          unfold HM
          rw [Co,Yx,Yx]
          simp [hf,hq]
        rw [e1]
        exact ih
    have:i=y.lG.length:=by omega
    subst this
    simp only [Nat.lt_irrefl,decide_false,cond_false]
    rfl
theorem Tb (n:Nat) (y:Am) (lanes:List Int) (f:Int→Bool) (hm:y.room.length≤1000) (hy:y.lG.length≤8) (hv:y.lG.all EQ=true) (hl:lanes.length=y.lG.length) (hin:∀ b∈Ah y.lG.length,Ei (Bn lanes b) 0 ((y.room.length:Int)-1)=true) (hn:20≤n) :
    Dh n y lanes (A2 f)=some (Fs y lanes f):=by
  unfold Dh
  have htl:=GS y f
  rw [XI _ _ (by omega),Yg,RF n y f hy hv hn,Yg]
  have h1:=L4 y lanes hl hin _ rfl (Bk y f) [] (fun b hb=>(Cf.1 hb).1) (by simp; omega)
  have h2:=(PZ n _ (CG y.room.length (G8 lanes [])) (Bk y f) (by omega) (by omega)).trans h1
  rw [MC,show(CG y.room.length fun _=>(A4.mk ([]:List Int) 0))=CG y.room.length (G8 lanes []) from rfl,h2,Yg,Y0]
  have h3:=Kk y lanes f hy hl hin n 0 (by omega) (by omega)
  rw [show((0:Nat):Int)=0 from rfl,show CG y.room.length (HM y lanes f 0)=CG y.room.length (G8 lanes (Bk y f)) from Im fun k=>by unfold HM G8; simp [Ah]] at h3
  rw [h3]
  rfl
theorem L5 {y:Am} {lanes:List Int} (h:DX y lanes=true):lanes.length=y.lG.length∧∀ b∈Ah y.lG.length,Ei (Bn lanes b) 0 ((y.room.length:Int)-1)=true:=by
  unfold DX at h
  simp only [Yp,decide_eq_true_eq] at h
  refine⟨h.1,fun b hb=>?_⟩
  have hbr:=Aq.1 hb
  have hcl:b.toNat<lanes.length:=by omega
  have:=Qb _ _ _ h.2 _ (Yh hcl)
  unfold Bn
  rw [Yo,Yf hcl]
  exact this
theorem Oc {y:Am} {lanes:List Int} {f:Int→Bool} {k b:Int}:b∈(D9 y lanes f k).lG↔b∈Ah y.lG.length∧inl lanes k b=true:=by
  unfold D9
  rw [List.mem_append,Yv,Yv,Yv,Cf]
  constructor
  · rintro(⟨⟨h1,_⟩,h2⟩ | ⟨⟨h1,_⟩,h2⟩) <;> exact⟨h1,h2⟩
  rintro⟨h1,h2⟩
  cases hf:f b with
  | false=>exact .inl ⟨⟨h1,rfl⟩,h2⟩
  | true=>exact .inr ⟨⟨h1,rfl⟩,h2⟩
theorem TH (y:Am) (lanes:List Int) (f:Int→Bool) (k:Int):(D9 y lanes f k).lG.length≤2*y.lG.length:=by
  unfold D9
  have h1:=Yw (inl lanes k) (Bk y f)
  have h2:=GS y f
  have h3:=Yw (inl lanes k) ((Ah y.lG.length).filter f)
  have h4:=Yw f (Ah y.lG.length)
  rw [AU] at h4
  rw [Y1]
  omega
open Go Go.RowKit
def NR (f:Int→Bool) (b:Int):Int→Bool:=fun x=>if x=b then true else f x
def L6 (N:Nat):Nat→Nat→(Int→Bool)→List (Int→Bool)
  | _,0,_=>[]
  | 0,_+1,_=>[]
  | m+1,r+1,f=>(NR f ((N-(r+1):Nat):Int)::L6 N m r (NR f ((N-(r+1):Nat):Int)))++L6 N (m+1) r f
theorem L7 (N:Nat):∀ (r m:Nat)(f:Int→Bool),(L6 N m r f).length+1≤2 ^ r
  | 0,m,f=>by cases m <;> simp [L6]
  | r+1,0,f=>by
    have:1≤2 ^ (r+1):=Nat.one_le_two_pow
    simpa [L6] using this
  | r+1,m+1,f=>by
    have h1:=L7 N r m (NR f ((N-(r+1):Nat):Int))
    have h2:=L7 N r (m+1) f
    rw [L6,Y1,Yu,Nat.pow_succ]
    omega
theorem MD (y:Am) (hy:y.lG.length≤8):∀ (r n i m:Nat)(out:List A1)(f:Int→Bool),2*r+1≤n→i+r=y.lG.length→m≤2→out.length+2 ^ r≤1000000 →
    Bl n (A2 f) (m:Int) y out (i:Int)=some (out++(L6 y.lG.length m r f).map A2)
  | 0,n,i,m,out,f,hn,hi,hm,ho=>by
    obtain⟨n,rfl⟩:∃ k,n=k+1:=⟨n-1,by omega⟩
    have:i=y.lG.length:=by omega
    rw [Bl,Bz,this]
    cases m <;> simp [L6]
  | r+1,n,i,m,out,f,hn,hi,hm,ho=>by
    obtain⟨n,rfl⟩:∃ k,n=k+2:=⟨n-2,by omega⟩
    have hx:i<y.lG.length:=by omega
    have h0:(0:Int)≤(i:Int):=by omega
    have h8:(i:Int)<8:=by omega
    have hp:2 ^ (r+1)=2 ^ r+2 ^ r:=by rw [Nat.pow_succ]; omega
    have hp1:1≤2 ^ r:=Nat.one_le_two_pow
    rw [Bl,Bz]
    cases m with
    | zero=>simp [hx,L6]
    | succ m =>
      have g1:decide (((m+1:Nat):Int)>0)=true:=decide_eq_true (by omega)
      have w1:IntKind.i64.wrap (((m+1:Nat):Int)-1)=(m:Int):=by rw [IS (by omega) (by omega)]; omega
      have hb:((y.lG.length-(r+1):Nat):Int)=(i:Int):=by omega
      simp only [hx,decide_true,cond_true,g1,Yg,Ls h0 h8,HK f h0 h8,w1]
      rw [Da i (by omega),show(A2 fun x=>if x=(i:Int) then true else f x)=A2 (NR f (i:Int)) from rfl]
      have hl:=L7 y.lG.length r m (NR f (i:Int))
      have e1:lane_Yard_breaks_1 (n+1) (A2 (NR f (i:Int))) ((i+1:Nat):Int) (m:Int) out y=some (out++(NR f (i:Int)::L6 y.lG.length m r (NR f (i:Int))).map A2):=by
        rw [lane_Yard_breaks_1,Ee _ _ (by simp; omega),Yg,MD y hy r n (i+1) m _ _ (by omega) (by omega) (by omega) (by simp; omega),Yg]
        simp
      rw [e1,Yg,MD y hy r (n+1) (i+1) (m+1) _ _ (by omega) (by omega) (by omega) (by simp; omega),L6,hb]
      simp
def BH (y:Am):List (Int→Bool):=(fun _=>false)::L6 y.lG.length y.broken.toNat y.lG.length fun _=>false
theorem U5 (n:Nat) {y:Am} (hy:y.lG.length≤8) (hb:Ei y.broken 0 2=true) (hn:20≤n):D1 n y=some ((BH y).map A2):=by
  have hb':=AE.1 hb
  obtain⟨m,hm⟩:=Yn hb'.1
  obtain⟨n,rfl⟩:∃ k,n=k+1:=⟨n-1,by omega⟩
  have hp:2 ^ y.lG.length≤2 ^ 8:=Nat.pow_le_pow_right (by omega) hy
  unfold D1
  rw [lane_Yard_breaks_1,Ee _ _ (by simp),Yg,hm]
  have h1:=MD y hy y.lG.length n 0 m ([]++[A2 fun _=>false]) (fun _=>false) (by omega) (by omega) (by omega) (by simp; omega)
  rw [show((0:Nat):Int)=0 from rfl] at h1
  rw [TE,show A2 (Bc [])=A2 (fun _=>false) from Dg fun x=>by simp [Bc],h1]
  unfold BH
  rw [hm]
  simp
theorem QI (y:Am) (hy:y.lG.length≤8):(BH y).length≤256:=by
  have h1:=L7 y.lG.length y.lG.length y.broken.toNat fun _=>false
  have hp:2 ^ y.lG.length≤2 ^ 8:=Nat.pow_le_pow_right (by omega) hy
  unfold BH
  rw [Yu]
  omega
def Wr (x:A0) (b:Int):Int:=x.toL.getD b.toNat 0
def Eo (y:Am) (c:A4):AX:=MB y c.down c.lG 0 (-1)
def X2 (f:AX) (l:List Int) (w:A0):A0:=l.foldl (fun w b=>Xn w b (Wr f.tm b)) w
def P9 (y:Am) (cs:List A4):Int:=(cs.map fun c=>(Eo y c).many).sum
def Ws (y:Am) (cs:List A4) (w:A0):A0:=cs.foldl (fun w c=>X2 (Eo y c) c.lG w) w
def ME:A0:=⟨0,0,0,0,0,0,0,0⟩
def HN (y:Am) (lanes:List Int) (f:Int→Bool):Int:=P9 y (Fs y lanes f)
def RQ (y:Am) (lanes:List Int) (f:Int→Bool):A0:=Ws y (Fs y lanes f) ME
def L8 (y:Am) (lanes:List Int):List (Int→Bool)→Int×A0×A1→Int×A0×A1
  | [],s=>s
  | f::r,s=>L8 y lanes r (bif decide (HN y lanes f>s.1) then(HN y lanes f,RQ y lanes f,A2 f) else s)
def Tc (y:Am) (lanes:List Int):Int×A0×A1:=L8 y lanes (BH y) (-1,ME,A2 fun _=>false)
def BA (y:Am) (lanes:List Int):Int:=(Tc y lanes).1
theorem Jb (y:Am) (lanes:List Int):∀ (B:List (Int→Bool))(s:Int×A0×A1),s.1≤(L8 y lanes B s).1∧∀ f∈B,HN y lanes f≤(L8 y lanes B s).1
  | [],s=>by simp [L8]
  | f::r,s=>by
    rw [L8]
    by_cases h:HN y lanes f>s.1
    · rw [decide_eq_true h,cond_true]
      obtain⟨h1,h2⟩:=Jb y lanes r (HN y lanes f,RQ y lanes f,A2 f)
      refine⟨by simp only at h1; omega,fun g hg=>?_⟩
      rcases List.mem_cons.1 hg with rfl | hg
      · exact h1
      exact h2 g hg
    rw [decide_eq_false h,cond_false]
    obtain⟨h1,h2⟩:=Jb y lanes r s
    refine⟨h1,fun g hg=>?_⟩
    rcases List.mem_cons.1 hg with rfl | hg
    · omega
    exact h2 g hg
theorem MF (y:Am) (lanes:List Int):∀ (B:List (Int→Bool))(s:Int×A0×A1),L8 y lanes B s=s∨∃ f∈B,L8 y lanes B s=(HN y lanes f,RQ y lanes f,A2 f)
  | [],s=>.inl rfl
  | f::r,s=>by
    rw [L8]
    cases decide (HN y lanes f>s.1) with
    | true =>
      rcases MF y lanes r (HN y lanes f,RQ y lanes f,A2 f) with h | ⟨g,hg,h⟩
      · exact .inr ⟨f,by simp,h⟩
      exact .inr ⟨g,by simp [hg],h⟩
    | false =>
      rcases MF y lanes r s with h | ⟨g,hg,h⟩
      · exact .inl h
      exact .inr ⟨g,by simp [hg],h⟩
open Go Go.RowKit
def PA (down:Int) (m:Int→Int):List Int→Int→Int→Int
  | [],_,_=>0
  | b::r,i,last=>(if m b≤last then 1 else 0)+PA down m r (i+1) (if i<down then max last (m b) else last)
def Wd (y:Am) (down:Int):List Int→Int→Int→Int
  | [],_,_=>0
  | b::r,i,last=>max ((if (Aw y b).lo≤last then 1 else 0)+Wd y down r (i+1) (if i<down then max last (Aw y b).lo else last)) ((if (Aw y b).hi≤last then 1 else 0)+Wd y down r (i+1) (if i<down then max last (Aw y b).hi else last))
theorem OA (b t last:Int) (f:AX):(Gj b t last f).many=(if t≤last then 1 else 0)+f.many:=by
  unfold Gj
  simp only
  split <;> omega
theorem Td (y:Am) (down:Int):∀ (l:List Int)(i last:Int),(MB y down l i last).many=Wd y down l i last
  | [],_,_=>rfl
  | b::r,i,last=>by
    have h1:=Td y down r (i+1) (if i<down then max last (Aw y b).lo else last)
    have h2:=Td y down r (i+1) (if i<down then max last (Aw y b).hi else last)
    rw [MB,Wd,← h1,← h2,← OA b,← OA b]
    by_cases h:(Gj b (Aw y b).hi last (MB y down r (i+1) (if i<down then max last (Aw y b).hi else last))).many>(Gj b (Aw y b).lo last (MB y down r (i+1) (if i<down then max last (Aw y b).lo else last))).many
    · rw [decide_eq_true h,cond_true]; omega
    rw [decide_eq_false h,cond_false]; omega
theorem OB (y:Am) (down:Int):∀ (l:List Int)(i a b:Int),a≤b→Wd y down l i a≤Wd y down l i b
  | [],_,_,_,_=>Int.le_refl _
  | c::r,i,a,b,h=>by
    have h1:=OB y down r (i+1) (if i<down then max a (Aw y c).lo else a) (if i<down then max b (Aw y c).lo else b) (by split <;> omega)
    have h2:=OB y down r (i+1) (if i<down then max a (Aw y c).hi else a) (if i<down then max b (Aw y c).hi else b) (by split <;> omega)
    rw [Wd,Wd]
    have e1:(if (Aw y c).lo≤a then(1:Int) else 0)≤(if (Aw y c).lo≤b then 1 else 0):=by split <;> split <;> omega
    have e2:(if (Aw y c).hi≤a then(1:Int) else 0)≤(if (Aw y c).hi≤b then 1 else 0):=by split <;> split <;> omega
    omega
theorem TI {y:Am} (down:Int) (m:Int→Int):∀ (l:List Int)(i last:Int),(∀ b∈l,(Aw y b).lo≤m b∧m b≤(Aw y b).hi)→PA down m l i last≤Wd y down l i last
  | [],_,_,_=>Int.le_refl _
  | b::r,i,last,h=>by
    have hb:=h b (by simp)
    have hi:=TI (y:=y) down m r (i+1) (if i<down then max last (m b) else last) fun c hc=>h c (by simp [hc])
    rw [PA,Wd]
    by_cases hq:m b≤last
    · rw [if_pos hq,if_pos (show(Aw y b).lo≤last by omega)]
      have e1:(if i<down then max last (Aw y b).lo else last)=(if i<down then max last (m b) else last):=by split <;> omega
      rw [e1]
      omega
    rw [if_neg hq]
    have h2:=OB y down r (i+1) (if i<down then max last (m b) else last) (if i<down then max last (Aw y b).hi else last) (by split <;> omega)
    have e2:(0:Int)≤(if (Aw y b).hi≤last then 1 else 0):=by split <;> omega
    omega
def Jc (m:Int→Int) (l:List Int):Int:=l.foldl (fun a b=>max a (m b)) (-1)
theorem Te (m:Int→Int) (l:List Int) (b:Int):Jc m (l++[b])=max (Jc m l) (m b):=by simp [Jc,List.foldl_append]
theorem RR (m:Int→Int) (x:Int):∀ (l:List Int)(a:Int),x≤l.foldl (fun a b=>max a (m b)) a↔x≤a∨∃ b∈l,x≤m b
  | [],a=>by simp
  | b::r,a=>by
    rw [Yq,RR m x r]
    constructor
    · rintro(h | ⟨c,hc,h⟩)
      · rcases Int.le_total a (m b) with q | q
        · exact .inr ⟨b,by simp,by omega⟩
        exact .inl (by omega)
      exact .inr ⟨c,by simp [hc],h⟩
    rintro(h | ⟨c,hc,h⟩)
    · exact .inl (by omega)
    rcases List.mem_cons.1 hc with rfl | hc
    · exact .inl (by omega)
    exact .inr ⟨c,hc,h⟩
theorem RS {m:Int→Int} {x:Int} (hx:0≤x) (l:List Int):x≤Jc m l↔∃ b∈l,x≤m b:=by
  unfold Jc
  rw [RR]
  constructor
  · rintro(h | h)
    · omega
    exact h
  exact .inr
theorem WI (down:Int) (m:Int→Int):∀ (B:List Int)(i last:Int),down≤i→PA down m B i last=((B.filter fun c=>decide (m c≤last)).length:Int)
  | [],_,_,_=>rfl
  | c::r,i,last,h=>by
    rw [PA,if_neg (show ¬ i<down by omega),WI down m r (i+1) last (by omega),List.filter_cons]
    by_cases hq:m c≤last
    · simp [hq]; omega
    simp [hq]
theorem WJ (down:Int) (m:Int→Int) (hm:∀ b,0≤m b) (key:Int→Int) (B:List Int):∀ (A pre:List Int)(i:Int),(pre++A).Pairwise (fun a b=>key a<key b)→i+(A.length:Int)≤down →
    PA down m (A++B) i (Jc m pre)=((A.filter fun c=>(pre++A).any fun b=>decide (m c≤m b) && decide (key b<key c)).length:Int)+PA down m B (i+(A.length:Int)) (Jc m (pre++A))
  | [],pre,i,_,_=>by simp
  | c::A,pre,i,hp,hd=>by
    have hs:(pre++[c])++A=pre++c::A:=by simp
    have hi:=WJ down m hm key B A (pre++[c]) (i+1) (by rw [hs]; exact hp) (by simp at hd; omega)
    rw [Te,hs] at hi
    rw [List.cons_append,PA,if_pos (show i<down by simp at hd; omega),hi,List.filter_cons]
    have hc:(m c≤Jc m pre)↔((pre++c::A).any fun b=>decide (m c≤m b) && decide (key b<key c))=true:=by
      rw [RS (hm c),List.any_eq_true]
      obtain⟨_,p2,p3⟩:=List.pairwise_append.1 hp
      obtain⟨p4,_⟩:=List.pairwise_cons.1 p2
      constructor
      · rintro⟨b,hb,h⟩
        exact⟨b,by simp [hb],by simp [h,p3 b hb c (by simp)]⟩
      rintro⟨b,hb,h⟩
      simp only [Yp,decide_eq_true_eq] at h
      rcases List.mem_append.1 hb with hb | hb
      · exact⟨b,hb,h.1⟩
      rcases List.mem_cons.1 hb with rfl | hb
      · omega
      have:=p4 b hb; omega
    by_cases hq:m c≤Jc m pre
    · rw [if_pos hq,if_pos (hc.1 hq),Yu]
      simp only [Yu]
      rw [show i+1+(A.length:Int)=i+((A.length+1:Nat):Int) by omega]
      omega
    rw [if_neg hq,if_neg (fun h=>hq (hc.2 h)),Yu]
    rw [show i+1+(A.length:Int)=i+((A.length+1:Nat):Int) by omega]
    omega
def L9 (y:Am) (lanes:List Int) (f:Int→Bool) (m:Int→Int) (c:Int):Bool :=
  (Ah y.lG.length).any fun b=>!f b && (Bn lanes b == Bn lanes c && (decide (m c≤m b) && (f c || decide (CR y b<CR y c))))
theorem HO {l:List Int} {p q:Int→Bool} (h:∀ c∈l,p c=q c):(l.filter p).length=(l.filter q).length:=by
  rw [List.filter_congr h]
theorem U6 {y:Am} (hd:GR [] (y.lG.map (·.turn))=false) (lanes:List Int) (f:Int→Bool) (m:Int→Int) (hm:∀ b,0≤m b) (k:Int) :
    PA (D9 y lanes f k).down m (D9 y lanes f k).lG 0 (-1)=(((D9 y lanes f k).lG.filter (L9 y lanes f m)).length:Int):=by
  have hs:((Bk y f).filter (inl lanes k)).Pairwise fun a b=>CR y a<CR y b:=List.Pairwise.filter _ (Gc hd f)
  have h1:=WJ (((Bk y f).filter (inl lanes k)).length:Int) m hm (CR y) (((Ah y.lG.length).filter f).filter (inl lanes k)) ((Bk y f).filter (inl lanes k)) [] 0 hs (by omega)
  rw [WI _ m (((Ah y.lG.length).filter f).filter (inl lanes k)) _ _ (by omega)] at h1
  unfold D9
  simp only
  rw [show Jc m []=-1 from rfl] at h1
  rw [h1,Yx,Y1]
  have memA:∀ c,c∈(Bk y f).filter (inl lanes k)↔(c∈Ah y.lG.length∧f c=false)∧Bn lanes c=k:=fun c=>by
    rw [Yv,Cf]; simp [inl]
  have e1:(((Bk y f).filter (inl lanes k)).filter fun c=>([]++(Bk y f).filter (inl lanes k)).any fun b=>decide (m c≤m b) && decide (CR y b<CR y c)).length=(((Bk y f).filter (inl lanes k)).filter (L9 y lanes f m)).length:=HO fun c hc=>by
    have hc':=(memA c).1 hc
    rw [Y0,Bool.eq_iff_iff,List.any_eq_true]
    unfold L9
    rw [List.any_eq_true]
    constructor
    · rintro⟨b,hb,h⟩
      have hb':=(memA b).1 hb
      exact⟨b,hb'.1.1,by simp only [Yp,decide_eq_true_eq] at h; simp [hb'.1.2,hb'.2,hc'.2,h.1,h.2]⟩
    rintro⟨b,hb,h⟩
    simp only [Yp,decide_eq_true_eq,Bool.not_eq_true',beq_iff_eq,hc'.1.2,Yi] at h
    exact⟨b,(memA b).2 ⟨⟨hb,h.1⟩,by rw [h.2.1,hc'.2]⟩,by simp [h.2.2.1,h.2.2.2]⟩
  have e2:((((Ah y.lG.length).filter f).filter (inl lanes k)).filter fun c=>decide (m c≤Jc m ([]++(Bk y f).filter (inl lanes k)))).length=((((Ah y.lG.length).filter f).filter (inl lanes k)).filter (L9 y lanes f m)).length:=HO fun c hc=>by
    rw [Yv,Yv] at hc
    have hl:Bn lanes c=k:=by simpa [inl] using hc.2
    rw [Y0,Bool.eq_iff_iff,decide_eq_true_eq,RS (hm c)]
    unfold L9
    rw [List.any_eq_true]
    constructor
    · rintro⟨b,hb,h⟩
      have hb':=(memA b).1 hb
      exact⟨b,hb'.1.1,by simp [hb'.1.2,hb'.2,hl,h,hc.1.2]⟩
    rintro⟨b,hb,h⟩
    simp only [Yp,decide_eq_true_eq,Bool.not_eq_true',beq_iff_eq] at h
    exact⟨b,(memA b).2 ⟨⟨hb,h.1⟩,by rw [h.2.1,hl]⟩,h.2.2.1⟩
  rw [e1,e2]
  omega
theorem Vr (y:Am) (lanes:List Int) (f:Int→Bool) (k:Int):(D9 y lanes f k).lG.Perm ((Ah y.lG.length).filter (inl lanes k)):=by
  unfold D9
  simp only
  rw [← Yx]
  refine List.Perm.filter _ ?_
  refine List.Perm.trans (List.Perm.append_right _ (E5 _ (M8 y f))) ?_
  unfold M8
  refine List.Perm.trans List.perm_append_comm ?_
  exact List.filter_append_perm f _
def Vs (y:Am) (lanes:List Int) (f:Int→Bool) (m:Int→Int) (ks:List Int):Int:=(ks.map fun k=>PA (D9 y lanes f k).down m (D9 y lanes f k).lG 0 (-1)).sum
theorem RT {y:Am} (hd:GR [] (y.lG.map (·.turn))=false) (lanes:List Int) (f:Int→Bool) (m:Int→Int) (hm:∀ b,0≤m b):∀ r:Nat,
    Vs y lanes f m (Ah r)=((((Ah y.lG.length).filter (L9 y lanes f m)).filter fun c=>decide (Bn lanes c<(r:Int)) && decide (0≤Bn lanes c)).length:Int)
  | 0=>by
    have:((Ah y.lG.length).filter (L9 y lanes f m)).filter (fun c=>decide (Bn lanes c<((0:Nat):Int)) && decide (0≤Bn lanes c))=[]:=by
      rw [List.filter_eq_nil_iff]
      intro c _
      simp
    rw [this]
    rfl
  | r+1=>by
    have ih:=RT hd lanes f m hm r
    rw [Co]
    unfold Vs at ih ⊢
    rw [List.map_append,List.sum_append,ih,List.map_cons,List.map_nil,List.sum_cons,List.sum_nil,U6 hd lanes f m hm]
    rw [((Vr y lanes f (r:Int)).filter (L9 y lanes f m)).length_eq]
    have hst:∀ s:List Int,(s.filter fun c=>decide (Bn lanes c<((r+1:Nat):Int)) && decide (0≤Bn lanes c)).length=(s.filter fun c=>decide (Bn lanes c<(r:Int)) && decide (0≤Bn lanes c)).length+(s.filter (inl lanes (r:Int))).length:=by
      intro s
      induction s with
      | nil=>rfl
      | cons c s ih =>
        rw [List.filter_cons,List.filter_cons,List.filter_cons]
        by_cases h1:Bn lanes c=(r:Int)
        · rw [if_pos (by simp; omega),if_neg (by simp; omega),if_pos (by simp [inl,h1])]
          simp only [Yu]
          omega
        rw [if_neg (c:=inl lanes (r:Int) c=true) (by simp [inl,h1])]
        by_cases h2:Bn lanes c<(r:Int)∧0≤Bn lanes c
        · rw [if_pos (by simp; omega),if_pos (by simp; omega)]
          simp only [Yu]
          omega
        rw [if_neg (by simp; omega),if_neg (by simp; omega)]
        exact ih
    have hcm:((Ah y.lG.length).filter (L9 y lanes f m)).filter (inl lanes (r:Int))=((Ah y.lG.length).filter (inl lanes (r:Int))).filter (L9 y lanes f m):=by
      rw [List.filter_filter,List.filter_filter]
      exact List.filter_congr fun c _=>Bool.and_comm _ _
    rw [hst,hcm]
    omega
theorem Vt {y:Am} {lanes:List Int} (hd:GR [] (y.lG.map (·.turn))=false) (hin:∀ b∈Ah y.lG.length,Ei (Bn lanes b) 0 ((y.room.length:Int)-1)=true) (f:Int→Bool) (m:Int→Int) (hm:∀ b,0≤m b) :
    Vs y lanes f m (Ah y.room.length)=(((Ah y.lG.length).filter (L9 y lanes f m)).length:Int):=by
  rw [RT hd lanes f m hm,List.filter_eq_self.2]
  intro c hc
  have:=AE.1 (hin c (List.mem_filter.1 hc).1)
  simp
  omega
theorem Vu {y:Am} (lanes:List Int) (f:Int→Bool) (m:Int→Int) (hr:∀ b∈Ah y.lG.length,(Aw y b).lo≤m b∧m b≤(Aw y b).hi):∀ ks:List Int,Vs y lanes f m ks≤P9 y (ks.map (D9 y lanes f))
  | []=>Int.le_refl _
  | k::ks=>by
    have ih:=Vu lanes f m hr ks
    unfold Vs P9 at ih ⊢
    simp only [List.map_cons,List.sum_cons]
    have h1:=TI (y:=y) (D9 y lanes f k).down m (D9 y lanes f k).lG 0 (-1) fun b hb=>hr b (Oc.1 hb).1
    rw [← Td] at h1
    have h2:(MB y (D9 y lanes f k).down (D9 y lanes f k).lG 0 (-1)).many=(Eo y (D9 y lanes f k)).many:=rfl
    omega
theorem Wt {y:Am} (hd:GR [] (y.lG.map (·.turn))=false) {lanes:List Int} (hin:∀ b∈Ah y.lG.length,Ei (Bn lanes b) 0 ((y.room.length:Int)-1)=true) (f:Int→Bool) (m:Int→Int) (hm:∀ b,0≤m b)
    (hr:∀ b∈Ah y.lG.length,(Aw y b).lo≤m b∧m b≤(Aw y b).hi):(((Ah y.lG.length).filter (L9 y lanes f m)).length:Int)≤HN y lanes f:=by
  rw [← Vt hd hin f m hm]
  exact Vu lanes f m hr _
open Go Go.RowKit
def RU (f:Int→Bool) (l:List Int):Int→Bool:=l.foldl NR f
theorem RV:∀ (l:List Int)(f:Int→Bool)(x:Int),RU f l x=(f x || Bc l x)
  | [],f,x=>by simp [RU,Bc]
  | b::r,f,x=>by
    have ih:=RV r (NR f b) x
    unfold RU at ih ⊢
    rw [Yq,ih]
    unfold NR Bc
    by_cases h:x=b
    · subst h; simp
    rw [if_neg h,List.contains_cons,show(x == b)=false by simp [h],Yi]
theorem Vv (l:List Int):RU (fun _=>false) l=Bc l:=funext fun x=>by rw [RV,Yi]
theorem OC (N:Nat):∀ (r m:Nat)(f:Int→Bool)(l:List Int),l≠[]→l.Pairwise (· < ·)→(∀ b∈l,((N-r:Nat):Int)≤b∧b<N)→l.length≤m→r≤N→RU f l∈L6 N m r f
  | 0,m,f,[],hl,_,_,_,_=>absurd rfl hl
  | 0,m,f,b::l,_,_,hm,_,_=>by have:=hm b (by simp); omega
  | r+1,m,f,[],hl,_,_,_,_=>absurd rfl hl
  | r+1,0,f,b::l,_,_,_,h,_=>by simp at h
  | r+1,m+1,f,b::l,_,hp,hm,hl,hr=>by
    rw [Yt] at hp
    have hb:=hm b (by simp)
    rw [L6,List.mem_append]
    by_cases h:b=((N-(r+1):Nat):Int)
    · left
      rw [← h]
      cases l with
      | nil=>exact List.mem_cons_self
      | cons c l' =>
        refine List.mem_cons_of_mem _ (OC N r m (NR f b) (c::l') (by simp) hp.2 (fun d hd=>?_) (by simp at hl ⊢; omega) (by omega))
        have h1:=hp.1 d hd
        have h2:=hm d (by simp at hd ⊢; exact .inr hd)
        omega
    right
    refine OC N r (m+1) f (b::l) (by simp) (List.pairwise_cons.2 hp) (fun d hd=>?_) hl (by omega)
    rcases List.mem_cons.1 hd with rfl | hd
    · omega
    have h1:=hp.1 d hd
    have h2:=hm d (by simp [hd])
    omega
theorem Tf {y:Am} {l:List Int} (h:HL y l=true):Bc l∈BH y:=by
  obtain⟨h1,h2,h3⟩:=O6 h
  unfold BH
  by_cases hl:l=[]
  · subst hl
    rw [show Bc []=fun _=>false from funext fun x=>by simp [Bc]]
    exact List.mem_cons_self
  rw [← Vv]
  refine List.mem_cons_of_mem _ (OC _ _ _ _ l hl h1 (fun b hb=>?_) (by omega) (Ys _))
  have:=Aq.1 (h2 b hb)
  omega
theorem U7 {R:Int→Int→Prop} {l:List Int} (hp:l.Pairwise R) {a b:Int} (ha:a∈l) (hb:b∈l) (h:El l a<El l b):R a b:=by
  unfold El at h
  simp only [List.contains_iff_mem,ha,hb,if_true] at h
  have q1:=List.idxOf_lt_length_iff.2 ha
  have q2:=List.idxOf_lt_length_iff.2 hb
  have:=List.pairwise_iff_getElem.1 hp (l.idxOf a) (l.idxOf b) q1 q2 (by omega)
  rwa [List.getElem_idxOf q1,List.getElem_idxOf q2] at this
theorem U8 {y:Am} {order:List Int} (h:G7 y order=true) {a b:Int} (ha:a∈Ah y.lG.length) (hb:b∈Ah y.lG.length) (hp:El order a<El order b):(Aw y a).lo≤(Aw y b).hi:=by
  have hO:=KA h
  unfold G7 at h
  rw [Yp] at h
  exact U7 (O7 y order [] h.2).1 ((hO.mem a).2 ha) ((hO.mem b).2 hb) hp
theorem Wu {y:Am} {order:List Int} (hO:QH y order) (hp:order.Pairwise fun a b=>(Aw y a).lo≤(Aw y b).hi):G7 y order=true:=by
  unfold G7
  rw [decide_eq_true hO.len,Yr]
  exact RL y order [] (by rw [Y0]; exact hO.nd) (fun b hb=>(hO.mem b).1 hb) (by rw [Y0]; exact hp)
def LA (y:Am) (order:List Int) (c:Int):Int:=IV y ((Ah y.lG.length).filter fun b=>decide (El order b≤El order c))
theorem LB {y:Am} {l:List Int} {x:Int} (hx:0<x):x≤IV y l↔∃ k∈l,x≤(Aw y k).lo:=by
  have h:=R9 y (x-1) (by omega) l
  constructor
  · intro h1
    rw [decide_eq_true (show x-1<IV y l by omega)] at h
    obtain⟨k,hk,h2⟩:=List.any_eq_true.1 h.symm
    exact⟨k,hk,by have:=of_decide_eq_true h2; omega⟩
  rintro⟨k,hk,h1⟩
  have:decide (x-1<IV y l)=true:=by
    rw [h,List.any_eq_true]
    exact⟨k,hk,decide_eq_true (by omega)⟩
  have:=of_decide_eq_true this
  omega
theorem JL (y:Am):∀ l:List Int,∀ a,a≤l.foldl (fun m b=>max m (Aw y b).lo) a
  | [],a=>Int.le_refl _
  | b::r,a=>by
    have:=JL y r (max a (Aw y b).lo)
    rw [Yq]
    omega
theorem Tg {y:Am} (hv:y.lG.all EQ=true) {order:List Int} (h:G7 y order=true) {c:Int} (hc:c∈Ah y.lG.length):(Aw y c).lo≤LA y order c∧LA y order c≤(Aw y c).hi:=by
  have hk:=Lr hv (Fq.2 hc)
  have h0:0≤LA y order c:=JL y _ 0
  constructor
  · by_cases hq:0<(Aw y c).lo
    · exact(LB hq).2 ⟨c,List.mem_filter.2 ⟨hc,by simp⟩,Int.le_refl _⟩
    omega
  by_cases hq:(Aw y c).hi<LA y order c
  · obtain⟨k,hk',h1⟩:=(LB (show 0<(Aw y c).hi+1 by omega)).1 (show(Aw y c).hi+1≤LA y order c by omega)
    rw [Yv,decide_eq_true_eq] at hk'
    have hO:=KA h
    by_cases he:El order k=El order c
    · have:=Vo ((hO.mem k).2 hk'.1) ((hO.mem c).2 hc) he
      subst this
      omega
    have:=U8 h hk'.1 hc (by omega)
    omega
  omega
theorem U9 {y:Am} {order:List Int} {c b:Int} (h:El order c≤El order b):LA y order c≤LA y order b:=by
  have h0:0≤LA y order b:=JL y _ 0
  by_cases hq:0<LA y order c
  · obtain⟨k,hk,h1⟩:=(LB hq).1 (Int.le_refl (LA y order c))
    rw [Yv,decide_eq_true_eq] at hk
    exact(LB hq).2 ⟨k,List.mem_filter.2 ⟨hk.1,decide_eq_true (by omega)⟩,h1⟩
  omega
theorem Fe {l:List Int} {p q:Int→Bool} (h:∀ c∈l,p c=true→q c=true):(l.filter p).length≤(l.filter q).length:=by
  rw [← List.countP_eq_length_filter,← List.countP_eq_length_filter]
  exact List.countP_mono_left h
theorem Vw {y:Am} (hf:Cr y=0) {lanes:List Int} (hl:DX y lanes=true) {order broken:List Int} (ho:G7 y order=true) (hb:HL y broken=true):((Fz y lanes order broken).length:Int)≤BA y lanes:=by
  obtain⟨v1,v0,v2,v3,v4,v5,v6⟩:=DK hf
  obtain⟨l1,l2⟩:=L5 hl
  have h1:=Wt v6 l2 (Bc broken) (LA y order) (fun b=>JL y _ 0) fun b hb=>Tg v5 ho hb
  have h2:=(Jb y lanes (BH y) (-1,ME,A2 fun _=>false)).2 _ (Tf hb)
  have h3:(Fz y lanes order broken).length≤((Ah y.lG.length).filter (L9 y lanes (Bc broken) (LA y order))).length:=by
    have e:Fz y lanes order broken=(Ah y.lG.length).filter (Bc (GO y lanes order broken).flatten):=rfl
    rw [e]
    refine Fe fun c hc h=>?_
    have hm:c∈Fz y lanes order broken:=by rw [e,Yv]; exact⟨hc,h⟩
    obtain⟨_,b,d1,d2,d3,d4⟩:=(SZ v6 lanes order broken c).1 hm
    unfold SU at d3
    rw [Yp,beq_iff_eq,decide_eq_true_eq] at d3
    unfold L9
    rw [List.any_eq_true]
    refine⟨b,d1,?_⟩
    have hmn:LA y order c≤LA y order b:=U9 (by omega)
    rw [d2,d3.1,decide_eq_true hmn]
    cases hq:Bc broken c with
    | true=>simp
    | false=>simp [d4 hq]
  unfold BA Tc
  omega
theorem Nz (y:Am) (lanes:List Int) (f:Int→Bool):0≤HN y lanes f:=by
  unfold HN P9
  have:∀ cs:List A4,0≤(cs.map fun c=>(Eo y c).many).sum:=by
    intro cs
    induction cs with
    | nil=>simp
    | cons c cs ih =>
      have:=(GP y c.down c.lG 0 (-1)).1
      rw [List.map_cons,List.sum_cons]
      unfold Eo at ih ⊢
      omega
  exact this _
theorem UA (y:Am) (lanes:List Int):∃ f∈BH y,Tc y lanes=(HN y lanes f,RQ y lanes f,A2 f):=by
  rcases MF y lanes (BH y) (-1,ME,A2 fun _=>false) with h | ⟨f,hf,h⟩
  · exfalso
    have h1:=(Jb y lanes (BH y) (-1,ME,A2 fun _=>false)).2 (fun _=>false) List.mem_cons_self
    rw [h] at h1
    have:=Nz y lanes fun _=>false
    simp only at h1
    omega
  exact⟨f,hf,h⟩
open Go Go.RowKit
def KD (room:List Int):Nat→List Int→List (List Int)
  | 0,pre=>[pre]
  | r+1,pre=>(Ah room.length).flatMap fun k=>if (pre.count k:Int)<Cb room k then KD room r (pre++[k]) else []
theorem OD (room:List Int):∀ (r:Nat)(pre l:List Int),l∈KD room r pre↔∃ s,l=pre++s∧s.length=r∧DW room pre s=true
  | 0,pre,l=>by
    rw [KD,List.mem_singleton]
    constructor
    · rintro rfl; exact⟨[],by simp,rfl,rfl⟩
    rintro⟨s,rfl,h,_⟩
    rw [List.eq_nil_of_length_eq_zero h,List.append_nil]
  | r+1,pre,l=>by
    rw [KD,List.mem_flatMap]
    constructor
    · rintro⟨k,hk,h⟩
      have hk':=Aq.1 hk
      by_cases hq:(pre.count k:Int)<Cb room k
      · rw [if_pos hq,OD room r] at h
        obtain⟨s,rfl,h1,h2⟩:=h
        refine⟨k::s,by simp,by simp [h1],?_⟩
        unfold DW
        rw [decide_eq_true hq,h2,show Ei k 0 ((room.length:Int)-1)=true by rw [AE]; omega]
        rfl
      rw [if_neg hq] at h; simp at h
    rintro⟨s,rfl,h1,h2⟩
    cases s with
    | nil=>simp at h1
    | cons k s =>
      unfold DW at h2
      simp only [Yp,decide_eq_true_eq] at h2
      obtain⟨h3,h4,h5⟩:=h2
      rw [AE] at h3
      refine⟨k,by rw [Aq]; omega,?_⟩
      rw [if_pos h4,OD room r]
      exact⟨s,by simp,by simpa using h1,h5⟩
def LC (y:Am):List (List Int):=KD y.room y.lG.length []
theorem LD {y:Am} {l:List Int}:l∈LC y↔DX y l=true:=by
  unfold LC DX
  rw [OD]
  simp only [Y0,Yp,decide_eq_true_eq]
  constructor
  · rintro⟨s,rfl,h⟩; exact h
  intro h; exact⟨l,rfl,h⟩
def WK (f:List Int→Int) (s:Option (List Int×Int)) (l:List Int):Option (List Int×Int) :=
  match s with
  | none=>some (l,f l)
  | some (b,m)=>if f l<m then some (l,f l) else some (b,m)
def DC (f:List Int→Int) (L:List (List Int)) (s:Option (List Int×Int)):Option (List Int×Int):=L.foldl (WK f) s
theorem Jd (f:List Int→Int):∀ (L:List (List Int))(b:List Int)(m:Int),m=f b→∃ b',DC f L (some (b,m))=some (b',f b')∧(b' = b∨b'∈L)∧f b'≤m∧∀ l∈L,f b'≤f l
  | [],b,m,h=>⟨b,by unfold DC; rw [← h]; rfl,.inl rfl,by omega,by simp⟩
  | l::L,b,m,h=>by
    unfold DC
    rw [Yq]
    unfold WK
    simp only
    by_cases hq:f l<m
    · rw [if_pos hq]
      obtain⟨b',e,h1,h2,h3⟩:=Jd f L l (f l) rfl
      refine⟨b',e,.inr ?_,by omega,fun c hc=>?_⟩
      · rcases h1 with rfl | h1 <;> simp [*]
      rcases List.mem_cons.1 hc with rfl | hc
      · exact h2
      exact h3 c hc
    rw [if_neg hq]
    obtain⟨b',e,h1,h2,h3⟩:=Jd f L b m h
    refine⟨b',e,?_,h2,fun c hc=>?_⟩
    · rcases h1 with h1 | h1
      · exact .inl h1
      exact .inr (by simp [h1])
    rcases List.mem_cons.1 hc with rfl | hc
    · omega
    exact h3 c hc
def MG (y:Am):Option (List Int×Int):=DC (BA y) (LC y) none
theorem RW {y:Am} {b:List Int} {m:Int} (h:MG y=some (b,m)):DX y b=true∧m=BA y b∧∀ l,DX y l=true→m≤BA y l:=by
  unfold MG at h
  cases hL:LC y with
  | nil=>rw [hL] at h; cases h
  | cons c L =>
    rw [hL] at h
    obtain⟨b',e,h1,h2,h3⟩:=Jd (BA y) L c (BA y c) rfl
    rw [show DC (BA y) (c::L) none=DC (BA y) L (some (c,BA y c)) from rfl,e] at h
    cases h
    refine⟨?_,rfl,fun l hl=>?_⟩
    · rw [← LD,hL]
      rcases h1 with rfl | h1 <;> simp [*]
    rw [← LD,hL] at hl
    rcases List.mem_cons.1 hl with rfl | hl
    · exact h2
    exact h3 l hl
theorem OE {α:Type} (g:α→Int):∀ (bs:List α)(m:Int),m≤bs.foldl (fun m b=>max m (g b)) m∧(∀ b∈bs,g b≤bs.foldl (fun m b=>max m (g b)) m)∧(∀ k,m≤k→(∀ b∈bs,g b≤k)→bs.foldl (fun m b=>max m (g b)) m≤k)
  | [],m=>⟨Int.le_refl _,by simp,fun k h _=>h⟩
  | b::r,m=>by
    obtain⟨h1,h2,h3⟩:=OE g r (max m (g b))
    rw [Yq]
    refine⟨by omega,fun c hc=>?_,fun k hk hb=>h3 k (by have:=hb b (by simp); omega) fun c hc=>hb c (by simp [hc])⟩
    rcases List.mem_cons.1 hc with rfl | hc
    · omega
    exact h2 c hc
open Go Go.RowKit
open Go Go.RowKit
def KE (s:A1) (b:Int):Bool:=s.toL.getD b.toNat false
theorem TJ (f:Int→Bool) {b:Int} (h0:0≤b) (h8:b<8):KE (A2 f) b=f b:=by
  rcases PX h0 h8 with h | h | h | h | h | h | h | h <;> subst h <;> rfl
def Vx (y:Am) (k:Fy):A4 :=
  ⟨(Bk y (KE k.down)).filter (KE k.lG)++((Ah y.lG.length).filter (KE k.down)).filter (KE k.lG),(((Bk y (KE k.down)).filter (KE k.lG)).length:Int)⟩
def G0 (y:Am) (lanes:List Int) (f:Int→Bool) (k:Int):Fy:=⟨A2 (Bc (D9 y lanes f k).lG),A2 (Bc (((Ah y.lG.length).filter f).filter (inl lanes k)))⟩
theorem Wv {y:Am} (hy:y.lG.length≤8) (hd:GR [] (y.lG.map (·.turn))=false) (lanes:List Int) (f:Int→Bool) (k:Int):Vx y (G0 y lanes f k)=D9 y lanes f k:=by
  have hs:∀ b∈Ah y.lG.length,KE (G0 y lanes f k).lG b=inl lanes k b:=fun b hb=>by
    have hb':=Aq.1 hb
    unfold G0
    rw [TJ _ hb'.1 (by omega),Bool.eq_iff_iff,O8,Oc]
    exact⟨fun h=>h.2,fun h=>⟨hb,h⟩⟩
  have hf:∀ b∈Ah y.lG.length,KE (G0 y lanes f k).down b=(f b && inl lanes k b):=fun b hb=>by
    have hb':=Aq.1 hb
    unfold G0
    rw [TJ _ hb'.1 (by omega),Bool.eq_iff_iff,O8,Yv,Yv,Yp]
    exact⟨fun h=>⟨h.1.2,h.2⟩,fun h=>⟨⟨hb,h.1⟩,h.2⟩⟩
  have e1:(Bk y (KE (G0 y lanes f k).down)).filter (KE (G0 y lanes f k).lG)=(Bk y f).filter (inl lanes k):=by
    have hm:∀ x,x∈(Bk y (KE (G0 y lanes f k).down)).filter (KE (G0 y lanes f k).lG)↔x∈(Bk y f).filter (inl lanes k):=fun x=>by
      rw [Yv,Yv,Cf,Cf]
      constructor
      · rintro⟨⟨h1,h2⟩,h3⟩
        rw [hf x h1] at h2
        rw [hs x h1] at h3
        rw [h3,Bool.and_true] at h2
        exact⟨⟨h1,h2⟩,h3⟩
      rintro⟨⟨h1,h2⟩,h3⟩
      exact⟨⟨h1,by rw [hf x h1,h2]; rfl⟩,by rw [hs x h1]; exact h3⟩
    refine RD (key:=CR y) (fun a ha b hb h=>?_) ((List.Pairwise.filter _ (Gc hd _)).imp fun h=>Int.le_of_lt h) ((List.Pairwise.filter _ (Gc hd f)).imp fun h=>Int.le_of_lt h)
      ((List.perm_ext_iff_of_nodup (List.Pairwise.filter _ (Ij y _)) (List.Pairwise.filter _ (Ij y f))).2 hm)
    exact RN hd (Cf.1 (List.mem_filter.1 ha).1).1 (Cf.1 (List.mem_filter.1 hb).1).1 h
  have e2:((Ah y.lG.length).filter (KE (G0 y lanes f k).down)).filter (KE (G0 y lanes f k).lG)=((Ah y.lG.length).filter f).filter (inl lanes k):=by
    rw [List.filter_filter,List.filter_filter]
    refine List.filter_congr fun b hb=>?_
    rw [hs b hb,hf b hb]
    cases f b <;> cases inl lanes k b <;> rfl
  unfold Vx D9
  rw [e1,e2]
theorem LF {y:Am} (hy:y.lG.length≤8) (c:A4) (hc:∀ b∈c.lG,b∈Ah y.lG.length) (hl:c.lG.length≤100) (a:Nat) (ha:c.down=(a:Int)):∀ (n i:Nat),c.lG.length<n+i→i≤c.lG.length →
    C3 n c (i:Int) (A2 (Bc (c.lG.take i))) (A2 (Bc ((c.lG.take i).drop a)))=some (A2 (Bc c.lG),A2 (Bc (c.lG.drop a)))
  | 0,i,h,hi=>by omega
  | n+1,i,h,hi=>by
    rw [C3,Bz]
    by_cases hx:i<c.lG.length
    · have hb:=Aq.1 (hc _ (Yh hx))
      have h8:c.lG[i]<8:=by omega
      have ih:=LF hy c hc hl a ha n (i+1) (by omega) (by omega)
      have et:c.lG.take (i+1)=c.lG.take i++[c.lG[i]]:=by rw [List.take_add_one,Yf hx]; rfl
      simp only [hx,decide_true,cond_true,BX _ _ hx,Yg,Ls hb.1 h8,HK _ hb.1 h8]
      rw [Da i (by omega)]
      have e1:(A2 fun x=>if x=c.lG[i] then true else Bc (c.lG.take i) x)=A2 (Bc (c.lG.take (i+1))):=Dg fun x=>by rw [et,GN]
      have e2:(A2 fun x=>if x=c.lG[i] then decide ((i:Int)≥c.down) else Bc ((c.lG.take i).drop a) x)=A2 (Bc ((c.lG.take (i+1)).drop a)):=Dg fun x=>by
        by_cases hq:a≤i
        · have ed:(c.lG.take (i+1)).drop a=(c.lG.take i).drop a++[c.lG[i]]:=by
            rw [et,List.drop_append_of_le_length (by rw [Yl]; omega)]
          rw [ed,GN,decide_eq_true (show(i:Int)≥c.down by omega)]
        have e3:(c.lG.take (i+1)).drop a=[]:=List.drop_eq_nil_of_le (by rw [Yl]; omega)
        have e4:(c.lG.take i).drop a=[]:=List.drop_eq_nil_of_le (by rw [Yl]; omega)
        rw [e3,e4,decide_eq_false (show ¬ (i:Int)≥c.down by omega)]
        simp [Bc]
      rw [e1,e2]
      exact ih
    have:i=c.lG.length:=by omega
    subst this
    simp
theorem Xo {y:Am} (hy:y.lG.length≤8) (lanes:List Int) (f:Int→Bool) (k:Int) (n:Nat) (hn:50≤n):C3 n (D9 y lanes f k) 0 (A1.mk false false false false false false false false) (A1.mk false false false false false false false false)=some ((G0 y lanes f k).lG,(G0 y lanes f k).down):=by
  have hl:=TH y lanes f k
  have h:=LF hy (D9 y lanes f k) (fun b hb=>(Oc.1 hb).1) (by omega) ((Bk y f).filter (inl lanes k)).length rfl n 0 (by omega) (by omega)
  rw [List.take_zero,List.drop_nil,show((0:Nat):Int)=0 from rfl,← TE] at h
  rw [h]
  unfold G0
  rw [show(D9 y lanes f k).lG.drop ((Bk y f).filter (inl lanes k)).length=((Ah y.lG.length).filter f).filter (inl lanes k) from List.drop_left]
def Dz (y:Am) (m:List (Fy×Int)):Prop:=∀ k v,DA m k=some v→v=(Eo y (Vx y k)).many
theorem Dz.put {y:Am} {m:List (Fy×Int)} (h:Dz y m) {k:Fy} {v:Int} (hv:v=(Eo y (Vx y k)).many):Dz y (Hp m k v):=fun k' v' h'=>by
  rw [HH] at h'
  split at h'
  · rename_i he
    subst he
    cases h'
    exact hv
  exact h k' v' h'
theorem Io {y:Am} (hy:y.lG.length≤8) (hd:GR [] (y.lG.map (·.turn))=false) (many:Int) (lanes:List Int) (f:Int→Bool) (cs:List A4) (hc:∀ c∈cs,∃ k,c=D9 y lanes f k) (hl:cs.length≤100):∀ (n i:Nat)(s:Int)(m:List (Fy×Int)),200≤n+i→i≤cs.length→0≤s∧s≤16*i→Dz y m →
    ∃ m',C4 n many y cs (i:Int) s m=some (s+P9 y (cs.drop i),m')∧Dz y m'
  | 0,i,s,m,h,hi,_,_=>by omega
  | n+1,i,s,m,h,hi,hs,hm=>by
    rw [C4,Bz]
    by_cases hx:i<cs.length
    · obtain⟨k,ek⟩:=hc _ (Yh hx)
      have hcl:=TH y lanes f k
      have hr:=GP y cs[i].down cs[i].lG 0 (-1)
      have hw:De n y cs[i]=some (Eo y cs[i]):=Vq n hy (fun b hb=>by rw [ek] at hb; exact(Oc.1 hb).1) (by rw [ek]; omega) (by rw [ek]; omega)
      have hkey:=Xo hy lanes f k n (by omega)
      rw [← ek] at hkey
      have hv:(Eo y cs[i]).many=(Eo y (Vx y (G0 y lanes f k))).many:=by rw [Wv hy hd,← ek]
      have hm0:0≤(Eo y cs[i]).many∧(Eo y cs[i]).many≤16:=⟨hr.1,by have:=hr.2; unfold Eo; rw [ek] at this ⊢; omega⟩
      have fin:s+P9 y (cs.drop i)=(s+(Eo y cs[i]).many)+P9 y (cs.drop (i+1)):=by
        rw [BG hx]
        unfold P9
        rw [List.map_cons,List.sum_cons]
        omega
      simp only [hx,decide_true,cond_true,BX _ _ hx,Yg,hkey]
      rw [Da i (by omega)]
      cases hq:DA m (Fy.mk (G0 y lanes f k).lG (G0 y lanes f k).down) with
      | some v =>
        have ev:=hm _ _ hq
        have:ES m (Fy.mk (G0 y lanes f k).lG (G0 y lanes f k).down) (0:Int)=(v,true):=by unfold ES; rw [hq]
        simp only [this,Yk,cond_false]
        have evv:v=(Eo y cs[i]).many:=by rw [ev,hv]
        rw [evv,IS (by omega) (by omega),fin]
        exact Io hy hd many lanes f cs hc hl n (i+1) _ m (by omega) (by omega) ⟨by omega,by omega⟩ hm
      | none =>
        have:ES m (Fy.mk (G0 y lanes f k).lG (G0 y lanes f k).down) (0:Int)=(0,false):=by unfold ES; rw [hq]
        simp only [this,Bool.not_false,cond_true,hw,Yg]
        have h2:ES (Hp m (Fy.mk (G0 y lanes f k).lG (G0 y lanes f k).down) (Eo y cs[i]).many) (Fy.mk (G0 y lanes f k).lG (G0 y lanes f k).down) (0:Int)=((Eo y cs[i]).many,true):=by
          unfold ES; rw [HH,if_pos rfl]
        rw [h2]
        simp only
        rw [IS (by omega) (by omega),fin]
        exact Io hy hd many lanes f cs hc hl n (i+1) _ _ (by omega) (by omega) ⟨by omega,by omega⟩ (hm.put hv)
    have:i=cs.length:=by omega
    subst this
    exact⟨m,by simp [P9],hm⟩
def WL (y:Am) (lanes:List Int) (B:List (Int→Bool)) (m:Int):Int:=B.foldl (fun m f=>max m (HN y lanes f)) m
theorem UB (y:Am) (lanes:List Int):WL y lanes (BH y) 0=BA y lanes:=by
  obtain⟨h1,h2,h3⟩:=OE (HN y lanes) (BH y) 0
  obtain⟨f,hf,e⟩:=UA y lanes
  have h4:=h2 f hf
  have h5:=h3 (BA y lanes) (by unfold BA; rw [e]; exact Nz y lanes f) fun b hb=>(Jb y lanes (BH y) (-1,ME,A2 fun _=>false)).2 b hb
  have h6:BA y lanes=HN y lanes f:=by unfold BA; rw [e]
  unfold WL
  omega
theorem LG {y:Am} {lanes:List Int} (hy:y.lG.length≤8) (hm:y.room.length≤3) (hv:y.lG.all EQ=true) (hd:GR [] (y.lG.map (·.turn))=false) (hl:DX y lanes=true) (found:Bool) (many:Int) (B:List (Int→Bool)) (hB:B.length≤256):∀ (n i:Nat)(s:Int)(m:List (Fy×Int)),500≤n+i→i≤B.length→Dz y m →
    ∃ r m',C5 n lanes found many (B.map A2) y (i:Int) s m=some (r,m')∧Dz y m'∧(r=WL y lanes (B.drop i) s∨(found=true∧many≤r∧many≤WL y lanes (B.drop i) s))
  | 0,i,s,m,h,hi,_=>by omega
  | n+1,i,s,m,h,hi,hk=>by
    obtain⟨l1,l2⟩:=L5 hl
    rw [C5]
    rw [show decide ((i:Int)<(((B.map A2).length:Nat):Int))=decide (i<B.length) by rw [Bz,List.length_map]]
    by_cases hx:i<B.length
    · have hix:Bm (B.map A2) (i:Int)=some (A2 B[i]):=by rw [QD,Yy,Yf hx]; rfl
      obtain⟨m1,a1,a2⟩:=Io hy hd many lanes B[i] (Fs y lanes B[i]) (fun c hc=>by
        unfold Fs CG at hc
        obtain⟨k,_,rfl⟩:=List.mem_map.1 hc
        exact⟨k,rfl⟩) (by unfold Fs; rw [IZ]; omega) n 0 0 m (by omega) (by omega) (by omega) hk
      rw [show((0:Nat):Int)=0 from rfl,Yj,Int.zero_add] at a1
      obtain⟨n,rfl⟩:∃ q,n=q+2:=⟨n-2,by omega⟩
      have hmx:WL y lanes (B.drop i) s=WL y lanes (B.drop (i+1)) (max s (HN y lanes B[i])):=by
        rw [BG hx]
        rfl
      simp only [hx,decide_true,cond_true,hix,Yg,Tb (n+2) y lanes B[i] (by omega) hy hv l1 l2 (by omega)]
      rw [a1]
      simp only [Yg]
      rw [Oa n,Yg,Da i (by omega),hmx]
      have ih:=LG hy hm hv hd hl found many B hB (n+2) (i+1) (max s (HN y lanes B[i])) m1 (by omega) (by omega) a2
      cases found with
      | false=>exact ih
      | true =>
        by_cases hq:max s (P9 y (Fs y lanes B[i]))≥many
        · rw [cond_true,decide_eq_true hq,cond_true]
          have h1:=(OE (HN y lanes) (B.drop (i+1)) (max s (HN y lanes B[i]))).1
          refine⟨_,m1,rfl,a2,.inr ⟨rfl,by omega,?_⟩⟩
          unfold WL
          unfold HN at h1 ⊢
          omega
        rw [cond_true,decide_eq_false hq,cond_false]
        exact ih
    have:i=B.length:=by omega
    subst this
    exact⟨s,m,by simp,hk,.inl (by simp [WL])⟩
theorem Qc (n:Nat) {y:Am} {lanes:List Int} (hf:Cr y=0) (hl:DX y lanes=true) (found:Bool) (many:Int) (m:List (Fy×Int)) (hk:Dz y m) (hn:500≤n) :
    ∃ r m',Gk n lanes found many ((BH y).map A2) y m=some (r,m')∧Dz y m'∧(r=BA y lanes∨(found=true∧many≤r∧many≤BA y lanes)):=by
  obtain⟨v1,v0,v2,v3,v4,v5,v6⟩:=DK hf
  obtain⟨r,m',h1,h2,h3⟩:=LG v2 v1 v5 v6 hl found many (BH y) (QI y v2) n 0 0 m (by omega) (by omega) hk
  rw [Yj,UB] at h3
  rw [show((0:Nat):Int)=0 from rfl] at h1
  unfold Gk
  rw [h1]
  exact⟨r,m',rfl,h2,h3⟩
def Ep (y:Am) (pre:List Int):List Int:=Cp y.room.length fun k=>Cb y.room k-(pre.count k:Int)
def QJ (s:Option (List Int×Int)):Bool:=s.isSome
def TK (s:Option (List Int×Int)):Int:=match s with | none=>0 | some p=>p.2
def TL (s:Option (List Int×Int)):List Int:=match s with | none=>[] | some p=>p.1
def Vy (y:Am) (r:Nat):Prop:=∀ (n:Nat)(pre:List Int)(s:Option (List Int×Int))(m:List (Fy×Int)),540+10*r≤n→pre.length+r=y.lG.length→DW y.room [] pre=true→Dz y m →
    ∃ m',lane_Best_2 n pre (QJ s) (TK s) (TL s) (Ep y pre) y ((BH y).map A2) m=some (QJ (DC (BA y) (KD y.room r pre) s),TK (DC (BA y) (KD y.room r pre) s),TL (DC (BA y) (KD y.room r pre) s),Ep y pre,m')∧Dz y m'
theorem RX {n i:Nat} (h:i<n):(Ah n).drop i=(i:Int)::(Ah n).drop (i+1):=by
  have hl:i<(Ah n).length:=by rw [AU]; exact h
  have e:(Ah n)[i]? = some (i:Int):=by
    unfold Ah
    rw [Yy,List.getElem?_range h]
    rfl
  obtain⟨_,e'⟩:=List.getElem?_eq_some_iff.1 e
  rw [BG hl,e']
theorem Ip {y:Am} (hf:Cr y=0) (r:Nat) (H:Vy y r) (pre:List Int) (hl:pre.length+(r+1)=y.lG.length) (hR:DW y.room [] pre=true):∀ (n i:Nat)(s:Option (List Int×Int))(m:List (Fy×Int)),546+10*r≤n+i→i≤y.room.length→Dz y m →
    ∃ m',C6 n pre (Ep y pre) y ((BH y).map A2) (Ep y pre) (i:Int) (QJ s) (TK s) (TL s) m =
      some (Ep y pre,QJ (DC (BA y) (((Ah y.room.length).drop i).flatMap fun k=>if (pre.count k:Int)<Cb y.room k then KD y.room r (pre++[k]) else []) s),TK (DC (BA y) (((Ah y.room.length).drop i).flatMap fun k=>if (pre.count k:Int)<Cb y.room k then KD y.room r (pre++[k]) else []) s),TL (DC (BA y) (((Ah y.room.length).drop i).flatMap fun k=>if (pre.count k:Int)<Cb y.room k then KD y.room r (pre++[k]) else []) s),m')∧Dz y m'
  | 0,i,s,m,h,hi,_=>by
    obtain⟨v1,_⟩:=DK hf
    omega
  | n+1,i,s,m,h,hi,hk=>by
    obtain⟨v1,v0,v2,v3,v4,v5,v6⟩:=DK hf
    rw [C6]
    rw [show decide ((i:Int)<(((Ep y pre).length:Nat):Int))=decide (i<y.room.length) by rw [Bz]; unfold Ep; rw [Ik]]
    by_cases hx:i<y.room.length
    · have hbt:Ei (i:Int) 0 ((y.room.length:Int)-1)=true:=by rw [AE]; omega
      have hra:=M9 v4 hbt
      have hcl:pre.count (i:Int)≤pre.length:=List.count_le_length
      have hidx:Bm (Ep y pre) (i:Int)=some (Cb y.room (i:Int)-(pre.count (i:Int):Int)):=Gb hbt
      simp only [hx,decide_true,cond_true,hidx,Yg]
      rw [RX hx,List.flatMap_cons]
      by_cases hq:(pre.count (i:Int):Int)<Cb y.room (i:Int)
      · rw [decide_eq_true (show Cb y.room (i:Int)-(pre.count (i:Int):Int)>0 by omega),cond_true,if_pos hq]
        have hup:upd (Ep y pre) (i:Int) (IntKind.i64.wrap (Cb y.room (i:Int)-(pre.count (i:Int):Int)-1))=some (Ep y (pre++[(i:Int)])):=by
          unfold Ep
          rw [Il hbt]
          congr 2
          funext x
          rw [GT]
          by_cases hxe:x=(i:Int)
          · rw [if_pos hxe,if_pos hxe,IS (by omega) (by omega),hxe]; omega
          rw [if_neg hxe,if_neg hxe]; omega
        have hR':DW y.room [] (pre++[(i:Int)])=true:=by
          rw [Nx,hR,hbt,Y0,decide_eq_true hq]
          rfl
        obtain⟨m1,a1,a2⟩:=H n (pre++[(i:Int)]) s m (by omega) (by simp; omega) hR' hk
        rw [hup,Yg,Ee _ _ (by simp; omega),Yg,a1,Yg]
        have hidx2:Bm (Ep y (pre++[(i:Int)])) (i:Int)=some (Cb y.room (i:Int)-((pre++[(i:Int)]).count (i:Int):Int)):=Gb hbt
        have hup2:upd (Ep y (pre++[(i:Int)])) (i:Int) (IntKind.i64.wrap (Cb y.room (i:Int)-((pre++[(i:Int)]).count (i:Int):Int)+1))=some (Ep y pre):=by
          have hc2:=GT pre (i:Int) (i:Int)
          rw [if_pos rfl] at hc2
          unfold Ep
          rw [Il hbt]
          congr 2
          funext x
          by_cases hxe:x=(i:Int)
          · rw [if_pos hxe,IS (by omega) (by omega),hxe]; omega
          rw [if_neg hxe,GT,if_neg hxe]; omega
        simp only [hidx2,Yg]
        rw [hup2,Yg,Da i (by omega)]
        have el:∀ B,DC (BA y) (KD y.room r (pre++[(i:Int)])++B) s=DC (BA y) B (DC (BA y) (KD y.room r (pre++[(i:Int)])) s):=fun B=>by unfold DC; rw [List.foldl_append]
        rw [el]
        exact Ip hf r H pre hl hR n (i+1) _ m1 (by omega) (by omega) a2
      rw [decide_eq_false (show ¬ Cb y.room (i:Int)-(pre.count (i:Int):Int)>0 by omega),cond_false,if_neg hq,Y0,Da i (by omega)]
      exact Ip hf r H pre hl hR n (i+1) s m (by omega) (by omega) hk
    have:i=y.room.length:=by omega
    subst this
    refine⟨m,?_,hk⟩
    rw [show(Ah y.room.length).drop y.room.length=[] from List.drop_eq_nil_of_le (by rw [AU]; exact Ys _)]
    simp [DC]
theorem Qd {y:Am} (hf:Cr y=0):∀ r,Vy y r
  | 0,n,pre,s,m,hn,hl,hR,hk=>by
    obtain⟨v1,v0,v2,v3,v4,v5,v6⟩:=DK hf
    obtain⟨n,rfl⟩:∃ q,n=q+1:=⟨n-1,by omega⟩
    have hlb:DX y pre=true:=by unfold DX; rw [decide_eq_true (show pre.length=y.lG.length by omega),hR]; rfl
    have hc:(((pre.length:Nat):Int) == ((y.lG.length:Nat):Int))=true:=by rw [beq_iff_eq]; omega
    cases s with
    | none =>
      show ∃ m',lane_Best_2 (n+1) pre false 0 [] (Ep y pre) y ((BH y).map A2) m=some (true,BA y pre,pre,Ep y pre,m')∧Dz y m'
      obtain⟨q,m1,a1,a2,a3⟩:=Qc n hf hlb false 0 m hk (by omega)
      have hq:q=BA y pre:=by
        rcases a3 with h | ⟨h,_⟩
        · exact h
        cases h
      refine⟨m1,?_,a2⟩
      rw [lane_Best_2,hc,cond_true,a1,hq]
      simp only [Yg,Bool.not_false,cond_true,Lp n pre (by omega)]
    | some p =>
      obtain⟨b,k⟩:=p
      obtain⟨q,m1,a1,a2,a3⟩:=Qc n hf hlb true k m hk (by omega)
      have e:DC (BA y) (KD y.room 0 pre) (some (b,k))=if BA y pre<k then some (pre,BA y pre) else some (b,k):=rfl
      by_cases hq:BA y pre<k
      · rw [e,if_pos hq]
        show ∃ m',lane_Best_2 (n+1) pre true k b (Ep y pre) y ((BH y).map A2) m=some (true,BA y pre,pre,Ep y pre,m')∧Dz y m'
        have hw:q=BA y pre:=by
          rcases a3 with h | ⟨_,_,h⟩
          · exact h
          omega
        refine⟨m1,?_,a2⟩
        rw [lane_Best_2,hc,cond_true,a1,hw]
        simp only [Yg,Yk,cond_false,decide_eq_true hq,cond_true,Lp n pre (by omega)]
      rw [e,if_neg hq]
      show ∃ m',lane_Best_2 (n+1) pre true k b (Ep y pre) y ((BH y).map A2) m=some (true,k,b,Ep y pre,m')∧Dz y m'
      have hw : ¬ q<k:=by
        rcases a3 with h | ⟨_,h,_⟩
        · rw [h]; exact hq
        omega
      refine⟨m1,?_,a2⟩
      rw [lane_Best_2,hc,cond_true,a1]
      simp only [Yg,Yk,cond_false,decide_eq_false hw]
  | r+1,n,pre,s,m,hn,hl,hR,hk=>by
    obtain⟨n,rfl⟩:∃ q,n=q+1:=⟨n-1,by omega⟩
    rw [lane_Best_2,show((((pre.length:Nat):Int) == ((y.lG.length:Nat):Int)))=false by
      cases hq:(((pre.length:Nat):Int) == ((y.lG.length:Nat):Int)) with
      | false=>rfl
      | true=>rw [beq_iff_eq] at hq; omega,cond_false]
    obtain⟨m1,a1,a2⟩:=Ip hf r (Qd hf r) pre hl hR n 0 s m (by omega) (by omega) hk
    refine⟨m1,?_,a2⟩
    rw [show((0:Nat):Int)=0 from rfl,Yj] at a1
    rw [a1]
    rfl
theorem UC (y:Am):Ep y []=y.room:=by
  unfold Ep
  conv=>rhs; rw [RG y.room]
  congr 1
  funext k
  unfold Cb
  simp
theorem Ww (n:Nat) {y:Am} (hf:Cr y=0) (hn:640≤n):GQ n y=some (match MG y with | none=>([],0,9) | some p=>(p.1,p.2,0)):=by
  obtain⟨v1,v0,v2,v3,v4,v5,v6⟩:=DK hf
  obtain⟨m,a1,_⟩:=Qd hf y.lG.length n [] none [] (by omega) (by simp) rfl (fun k v h=>by simp [DA] at h)
  unfold GQ
  rw [Ov n y (by omega) (by omega) (by omega) (by omega),Yg,hf,U5 n v2 v3 (by omega),Yg,Lp n y.room (by omega),Yg]
  rw [UC] at a1
  simp only [bne_self_eq_false,cond_false]
  rw [show lane_Best_2 n [] false 0 [] y.room y ((BH y).map A2) []=_ from a1,Yg]
  rw [show DC (BA y) (KD y.room y.lG.length []) none=MG y from rfl]
  cases MG y with
  | none=>rfl
  | some p=>rfl
open Go Go.RowKit
theorem PB (n:Nat) {y:Am} (hf:Cr y=0) (order:List Int) (ho:order.length≤100) (hn:200≤n):DN n y order=some (G7 y order):=by
  obtain⟨v1,v0,v2,v3,v4,v5,v6⟩:=DK hf
  obtain⟨p,hp,_⟩:=Ns n y v2 v5 order (by omega) (by omega)
  unfold DN
  rw [Ov n y (by omega) (by omega) (by omega) (by omega),Yg,hf]
  simp only [bne_self_eq_false,cond_false]
  rw [hp]
  rfl
theorem UD (n:Nat) {y:Am} {lanes order broken:List Int} (hf:Cr y=0) (hl:DX y lanes=true) (ho:G7 y order=true) (hb:HL y broken=true) (hn:200≤n):Ft n y lanes order broken=some (Fz y lanes order broken,0):=by
  obtain⟨v1,v0,v2,v3,v4,v5,v6⟩:=DK hf
  have v3':=AE.1 v3
  have hO:=KA ho
  have hb3:=(O6 hb).2.2
  have hll:=(L5 hl).1
  have ha:CJ y lanes order broken=0:=by
    unfold CJ Hs
    rw [if_pos hf,hl,ho,hb]
    rfl
  rw [U4 n y lanes order broken (by omega) (by omega) (by omega) (by rw [hO.len]; omega) (by omega) hn,ha,if_pos rfl]
end Go.Proofs.YtinminkmefljbaaGreat
