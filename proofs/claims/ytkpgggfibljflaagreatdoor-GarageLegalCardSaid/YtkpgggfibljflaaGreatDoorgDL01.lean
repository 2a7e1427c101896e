/- The plain law. -/
import Derived.Test.YtkpgggfibljflaaGreatDoorgDL00
import Derived.Lib.AtoiAll
set_option linter.all false
namespace Go.Proofs.YtkpgggfibljflaaGreatDoor
open Go
def dg:Nat→Nat→List UInt8
  | 0,_=>[]
  | k+1,n=>dg k (n / 10)++[UInt8.ofNat (48+n % 10)]
theorem Ru:∀ k n,(dg k n).length=k
  | 0,_=>rfl
  | k+1,n=>by simp [dg,Ru k]
theorem Ak5 {a b:Nat} (ha:a<256) (hb:b<256) (h:UInt8.ofNat a=UInt8.ofNat b):a=b:=by
  have:=congrArg UInt8.toNat h
  simpa [UInt8.toNat_ofNat',Nat.mod_eq_of_lt ha,Nat.mod_eq_of_lt hb] using this
theorem AlX:∀ (k:Nat) {n m:Nat},n<10 ^ k→m<10 ^ k→dg k n=dg k m→n=m
  | 0,n,m,hn,hm,_=>by simp at hn hm; omega
  | k+1,n,m,hn,hm,h=>by
    unfold dg at h
    obtain⟨h1,h2⟩:=List.append_inj h (by simp [Ru])
    have h3:=AlX k (n:=n / 10) (m:=m / 10) (by rw [Nat.pow_succ] at hn; omega) (by rw [Nat.pow_succ] at hm; omega) h1
    simp only [List.cons.injEq,and_true] at h2
    have h4:=Ak5 (a:=48+n % 10) (b:=48+m % 10) (by omega) (by omega) h2
    omega
def ApZ:Nat→List UInt8→Nat
  | _,[]=>0
  | j,c::l=>(j+1)*(c.toNat+1)+ApZ (j+1) l
def chk (l:List UInt8) (i:Nat):Nat:=(7*(i+1)+ApZ 0 l) % 99991
def AcF (l:List UInt8) (i:Nat):List UInt8:=91::(dg 3 l.length++47::(dg 3 (999-l.length)++47::(dg 5 (chk l i)++93::(l++[10]))))
theorem Nw (l:List UInt8) (i:Nat):(AcF l i).length=16+l.length:=by simp [AcF,Ru]; omega
theorem Apb (l:List UInt8) (i:Nat):((AcF l i).drop 1).take 3=dg 3 l.length:=by
  simp only [AcF,List.drop_succ_cons,List.drop_zero]
  rw [List.take_append_of_le_length (by simp [Ru]),List.take_of_length_le (by simp [Ru])]
theorem Aaz {α:Type} {a b:List α} {k:Nat} (h:a.length=k) (m:Nat):(a++b).drop (k+m)=b.drop m:=by
  subst h
  rw [List.drop_append,List.drop_eq_nil_of_le (by omega),List.nil_append,Nat.add_sub_cancel_left]
theorem Aqa (l:List UInt8) (i:Nat):(AcF l i).drop 9=dg 5 (chk l i)++93::(l++[10]):=by
  show(dg 3 l.length++47::(dg 3 (999-l.length)++47::(dg 5 (chk l i)++93::(l++[10])))).drop (3+5)=_
  rw [Aaz (Ru 3 _)]
  show(dg 3 (999-l.length)++47::(dg 5 (chk l i)++93::(l++[10]))).drop (3+1)=_
  rw [Aaz (Ru 3 _)]; rfl
theorem Apw (l:List UInt8) (i:Nat):(AcF l i).drop 15=l++[10]:=by
  rw [show 15=9+6 from rfl,← List.drop_drop,Aqa]
  show(dg 5 (chk l i)++93::(l++[10])).drop (5+1)=_
  rw [Aaz (Ru 5 _)]; rfl
theorem Apc (l:List UInt8) (i:Nat):((AcF l i).drop 15).take l.length=l:=by
  rw [Apw,List.take_append_of_le_length (Nat.le_refl _),List.take_length]
theorem Apd {f b:List UInt8} (h:f <+: b) (h16:16≤f.length):(b.drop 1).take 3=(f.drop 1).take 3∧(b.drop 5).take 3=(f.drop 5).take 3:=by
  obtain⟨t,rfl⟩:=h
  constructor
  · rw [List.drop_append_of_le_length (by omega),List.take_append_of_le_length (by simp; omega)]
  · rw [List.drop_append_of_le_length (by omega),List.take_append_of_le_length (by simp; omega)]
theorem AlY {l l':List UInt8} {i i':Nat} (h:l.length≤200) (h':l'.length≤200) (e:((AcF l i).drop 1).take 3=((AcF l' i').drop 1).take 3):l.length=l'.length:=by
  rw [Apb,Apb] at e
  exact AlX 3 (by omega) (by omega) e
theorem XD {l l' b:List UInt8} {i i':Nat} (h:l.length≤200) (h':l'.length≤200) (p:AcF l i <+: b) (p':AcF l' i' <+: b):AcF l i=AcF l' i':=by
  have e:=AlY h h' ((Apd p (by rw [Nw]; omega)).1.symm.trans (Apd p' (by rw [Nw]; omega)).1)
  obtain⟨t,rfl⟩:=p
  obtain⟨t',ht⟩:=p'
  exact(List.append_inj ht (by rw [Nw,Nw,e])).1.symm
theorem AlZ {l l':List UInt8} {i i':Nat} (h:l.length≤200) (h':l'.length≤200) (e:AcF l i=AcF l' i'):l=l':=by
  have hl:l.length=l'.length:=by
    have:=congrArg List.length e
    rw [Nw,Nw] at this; omega
  have:=Apc l i
  rw [e,hl,Apc] at this
  exact this.symm
def GK:Nat→List (List UInt8)→List UInt8
  | _,[]=>[]
  | i,l::r=>AcF l i++GK (i+1) r
theorem W8:∀ (a b:List (List UInt8))(i:Nat),GK i (a++b)=GK i a++GK (i+a.length) b
  | [],_,_=>rfl
  | l::a,b,i=>by simp [GK,W8 a b (i+1),Nat.add_comm,Nat.add_left_comm]
def Ai1 (i:Nat) (b l:List UInt8):Prop:=l.length≤200∧AcF l i <+: b
theorem Ai1.one {i:Nat} {b l l':List UInt8} (h:Ai1 i b l) (h':Ai1 i b l'):l=l':=AlZ h.1 h'.1 (XD h.1 h'.1 h.2 h'.2)
inductive Rd:Nat→Nat→List UInt8→List (List UInt8)→Prop
  | full (i:Nat) (b:List UInt8):Rd 0 i b []
  | stop {k i:Nat} {b:List UInt8} (h:∀ l,¬ Ai1 i b l):Rd (k+1) i b []
  | more {k i:Nat} {b l:List UInt8} {r:List (List UInt8)} (h:Ai1 i b l) (hr:Rd k (i+1) (b.drop (16+l.length)) r):Rd (k+1) i b (l::r)
theorem Rd.one:∀ {k i:Nat} {b:List UInt8} {r r':List (List UInt8)},Rd k i b r→Rd k i b r'→r=r'
  | _,_,_,_,_,.full _ _,.full _ _=>rfl
  | _,_,_,_,_,.stop _,.stop _=>rfl
  | _,_,_,_,_,.stop h,.more h' _=>absurd h' (h _)
  | _,_,_,_,_,.more h _,.stop h'=>absurd h (h' _)
  | _,_,_,_,_,.more h hr,.more h' hr'=>by
    have:=h.one h'
    subst this
    rw [hr.one hr']
theorem Rd.app:∀ (ls:List (List UInt8)) {k i:Nat} {b:List UInt8} {r:List (List UInt8)},(∀ l∈ls,l.length≤200)→Rd k (i+ls.length) b r→Rd (k+ls.length) i (GK i ls++b) (ls++r)
  | [],_,_,_,_,_,h=>h
  | l::ls,k,i,b,r,hs,h=>by
    refine .more (l:=l) ⟨hs l (by simp),?_⟩ ?_
    · exact⟨GK (i+1) ls++b,by simp [GK]⟩
    · have:(GK i (l::ls)++b).drop (16+l.length)=GK (i+1) ls++b:=by
        rw [← Nw l i]; simp [GK]
      rw [this]
      exact Rd.app ls (fun l hl=>hs l (by simp [hl])) (by simpa [Nat.add_comm,Nat.add_left_comm] using h)
theorem Aa0 {i c:Nat} {l b:List UInt8} (h:l.length≤200) (hc:c<(AcF l i).length):∀ l',¬ Ai1 i ((AcF l i++b).take c) l':=fun l' ⟨h1,h2⟩=>by
  have h3:AcF l' i <+: AcF l i++b:=h2.trans (List.take_prefix _ _)
  have h4:=XD h1 h h3 ⟨b,rfl⟩
  have:=h2.length_le
  rw [h4] at this
  simp at this
  omega
theorem Afn {i:Nat}:∀ l',¬ Ai1 i [] l':=fun l' ⟨_,h2⟩=>by
  have:=h2.length_le
  rw [Nw] at this
  simp at this
theorem Rd.cut {ls:List (List UInt8)} {n c k:Nat} (hs:∀ l∈ls,l.length≤200) (hk:ls.length≤k) (hn:n≤ls.length) (h1:(GK 0 (ls.take n)).length≤c) (h2:∀ hn:n<ls.length,c<(GK 0 (ls.take (n+1))).length):Rd k 0 ((GK 0 ls).take c) (ls.take n):=by
  have hsplit:GK 0 ls=GK 0 (ls.take n)++GK n (ls.drop n):=by
    conv=>lhs; rw [← List.take_append_drop n ls,W8]
    rw [List.length_take,Nat.min_eq_left hn,Nat.zero_add]
  rw [hsplit,List.take_append,List.take_of_length_le h1]
  have hl:(ls.take n).length=n:=by simp [hn]
  obtain⟨k',rfl⟩:∃ k',k=k'+(ls.take n).length:=⟨k-n,by rw [hl]; omega⟩
  conv=>rhs; rw [← List.append_nil (ls.take n)]
  refine Rd.app _ (fun l h=>hs l (List.mem_of_mem_take h)) ?_
  rw [hl,Nat.zero_add]
  by_cases hlt:n<ls.length
  · cases k' with
    | zero=>omega
    | succ k' =>
      refine .stop ?_
      have hd:ls.drop n=ls[n]::ls.drop (n+1):=List.drop_eq_getElem_cons hlt
      rw [hd]
      refine Aa0 (hs _ (List.getElem_mem _)) ?_
      have:=h2 hlt
      have e:(GK 0 (ls.take (n+1))).length=(GK 0 (ls.take n)).length+(AcF ls[n] n).length:=by
        rw [List.take_succ_eq_append_getElem hlt,W8]
        simp [GK,hn,Nat.min_eq_left]
      omega
  · have:ls.drop n=[]:=by simp; omega
    rw [this]
    cases k' with
    | zero=>exact .full _ _
    | succ k'=>exact .stop (by simpa [GK] using Afn)
theorem Rd.allB {ls:List (List UInt8)} {k:Nat} (hs:∀ l∈ls,l.length≤200) (hk:ls.length≤k):Rd k 0 (GK 0 ls) ls:=by
  have h:=Rd.cut (n:=ls.length) (c:=(GK 0 ls).length) hs hk (Nat.le_refl _) (by simp) (fun h=>absurd h (Nat.lt_irrefl _))
  simpa using h
end Go.Proofs.YtkpgggfibljflaaGreatDoor
