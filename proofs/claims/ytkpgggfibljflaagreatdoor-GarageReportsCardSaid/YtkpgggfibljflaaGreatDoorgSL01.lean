/- The plain law. -/
import Derived.Test.YtkpgggfibljflaaGreatDoorgSL00
import Derived.Lib.AtoiAll
set_option linter.all false
namespace Go.Proofs.YtkpgggfibljflaaGreatDoor
open Go
def dg:Nat→Nat→List UInt8
 | 0,_=>[]
 | k+1,n=>dg k (n / 10)++[UInt8.ofNat (48+n % 10)]
theorem Lw:∀ k n,(dg k n).length=k
 | 0,_=>rfl
 | k+1,n=>by simp [dg,Lw k]
theorem AcM {a b:Nat} (ha:a<256) (hb:b<256) (h:UInt8.ofNat a=UInt8.ofNat b):a=b:=by
 have:=congrArg UInt8.toNat h
 simpa [UInt8.toNat_ofNat',Nat.mod_eq_of_lt ha,Nat.mod_eq_of_lt hb] using this
theorem Aez:∀ (k:Nat) {n m:Nat},n<10 ^ k→m<10 ^ k→dg k n=dg k m→n=m
 | 0,n,m,hn,hm,_=>by simp at hn hm; omega
 | k+1,n,m,hn,hm,h=>by
  unfold dg at h
  obtain⟨h1,h2⟩:=List.append_inj h (by simp [Lw])
  have h3:=Aez k (n:=n / 10) (m:=m / 10) (by rw [Zb7] at hn; omega) (by rw [Zb7] at hm; omega) h1
  simp only [List.cons.injEq,and_true] at h2
  have h4:=AcM (a:=48+n % 10) (b:=48+m % 10) (by omega) (by omega) h2
  omega
def Ajs:Nat→List UInt8→Nat
 | _,[]=>0
 | j,c::l=>(j+1)*(c.toNat+1)+Ajs (j+1) l
def chk (l:List UInt8) (i:Nat):Nat:=(7*(i+1)+Ajs 0 l) % 99991
def XW (l:List UInt8) (i:Nat):List UInt8:=91::(dg 3 l.length++47::(dg 3 (999-l.length)++47::(dg 5 (chk l i)++93::(l++[10]))))
theorem Kl (l:List UInt8) (i:Nat):(XW l i).length=16+l.length:=by simp [XW,Lw]; omega
theorem Aif (l:List UInt8) (i:Nat):((XW l i).drop 1).take 3=dg 3 l.length:=by
 simp only [XW,ZbC,Zar]
 rw [Zbk (by simp [Lw]),Zbb (by simp [Lw])]
theorem RV {α:Type} {a b:List α} {k:Nat} (h:a.length=k) (m:Nat):(a++b).drop (k+m)=b.drop m:=by
 subst h
 rw [List.drop_append,List.drop_eq_nil_of_le (by omega),Zax,Nat.add_sub_cancel_left]
theorem Ajt (l:List UInt8) (i:Nat):(XW l i).drop 9=dg 5 (chk l i)++93::(l++[10]):=by
 show(dg 3 l.length++47::(dg 3 (999-l.length)++47::(dg 5 (chk l i)++93::(l++[10])))).drop (3+5)=_
 rw [RV (Lw 3 _)]
 show(dg 3 (999-l.length)++47::(dg 5 (chk l i)++93::(l++[10]))).drop (3+1)=_
 rw [RV (Lw 3 _)]; rfl
theorem Ai8 (l:List UInt8) (i:Nat):(XW l i).drop 15=l++[10]:=by
 rw [show 15=9+6 from rfl,← List.drop_drop,Ajt]
 show(dg 5 (chk l i)++93::(l++[10])).drop (5+1)=_
 rw [RV (Lw 5 _)]; rfl
theorem Aig (l:List UInt8) (i:Nat):((XW l i).drop 15).take l.length=l:=by
 rw [Ai8,Zbk (Zas _),List.take_length]
theorem Aih {f b:List UInt8} (h:f <+: b) (h16:16≤f.length):(b.drop 1).take 3=(f.drop 1).take 3∧(b.drop 5).take 3=(f.drop 5).take 3:=by
 obtain⟨t,rfl⟩:=h
 constructor
 · rw [Zba (by omega),Zbk (by simp; omega)]
 · rw [Zba (by omega),Zbk (by simp; omega)]
theorem Ae0 {l l':List UInt8} {i i':Nat} (h:l.length≤200) (h':l'.length≤200) (e:((XW l i).drop 1).take 3=((XW l' i').drop 1).take 3):l.length=l'.length:=by
 rw [Aif,Aif] at e
 exact Aez 3 (by omega) (by omega) e
theorem XX {l l' b:List UInt8} {i i':Nat} (h:l.length≤200) (h':l'.length≤200) (p:XW l i <+: b) (p':XW l' i' <+: b):XW l i=XW l' i':=by
 have e:=Ae0 h h' ((Aih p (by rw [Kl]; omega)).1.symm.trans (Aih p' (by rw [Kl]; omega)).1)
 obtain⟨t,rfl⟩:=p
 obtain⟨t',ht⟩:=p'
 exact(List.append_inj ht (by rw [Kl,Kl,e])).1.symm
theorem Ae1 {l l':List UInt8} {i i':Nat} (h:l.length≤200) (h':l'.length≤200) (e:XW l i=XW l' i'):l=l':=by
 have hl:l.length=l'.length:=by
  have:=congrArg List.length e
  rw [Kl,Kl] at this; omega
 have:=Aig l i
 rw [e,hl,Aig] at this
 exact this.symm
def RW:Nat→List (List UInt8)→List UInt8
 | _,[]=>[]
 | i,l::r=>XW l i++RW (i+1) r
def Ae2 (i:Nat) (b l:List UInt8):Prop:=l.length≤200∧XW l i <+: b
theorem Ae2.one {i:Nat} {b l l':List UInt8} (h:Ae2 i b l) (h':Ae2 i b l'):l=l':=Ae1 h.1 h'.1 (XX h.1 h'.1 h.2 h'.2)
inductive Rd:Nat→Nat→List UInt8→List (List UInt8)→Prop
 | full (i:Nat) (b:List UInt8):Rd 0 i b []
 | stop {k i:Nat} {b:List UInt8} (h:∀ l,¬ Ae2 i b l):Rd (k+1) i b []
 | more {k i:Nat} {b l:List UInt8} {r:List (List UInt8)} (h:Ae2 i b l) (hr:Rd k (i+1) (b.drop (16+l.length)) r):Rd (k+1) i b (l::r)
theorem Rd.one:∀ {k i:Nat} {b:List UInt8} {r r':List (List UInt8)},Rd k i b r→Rd k i b r'→r=r'
 | _,_,_,_,_,.full _ _,.full _ _=>rfl
 | _,_,_,_,_,.stop _,.stop _=>rfl
 | _,_,_,_,_,.stop h,.more h' _=>absurd h' (h _)
 | _,_,_,_,_,.more h _,.stop h'=>absurd h (h' _)
 | _,_,_,_,_,.more h hr,.more h' hr'=>by
  have:=h.one h'
  subst this
  rw [hr.one hr']
theorem Rd.app:∀ (ls:List (List UInt8)) {k i:Nat} {b:List UInt8} {r:List (List UInt8)},(∀ l∈ls,l.length≤200)→Rd k (i+ls.length) b r→Rd (k+ls.length) i (RW i ls++b) (ls++r)
 | [],_,_,_,_,_,h=>h
 | l::ls,k,i,b,r,hs,h=>by
  refine .more (l:=l) ⟨hs l (by simp),?_⟩ ?_
  · exact⟨RW (i+1) ls++b,by simp [RW]⟩
  · have:(RW i (l::ls)++b).drop (16+l.length)=RW (i+1) ls++b:=by
     rw [← Kl l i]; simp [RW]
    rw [this]
    exact Rd.app ls (fun l hl=>hs l (by simp [hl])) (by simpa [Nat.add_comm,Nat.add_left_comm] using h)
end Go.Proofs.YtkpgggfibljflaaGreatDoor
