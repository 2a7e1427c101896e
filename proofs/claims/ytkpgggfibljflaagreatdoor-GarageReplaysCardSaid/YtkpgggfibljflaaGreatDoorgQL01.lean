/- The plain law. -/
import Derived.Test.YtkpgggfibljflaaGreatDoorgQL00
import Derived.Lib.AtoiAll
set_option linter.all false
namespace Go.Proofs.YtkpgggfibljflaaGreatDoor
open Go
def dg:Nat→Nat→List UInt8
 | 0,_=>[]
 | k+1,n=>dg k (n / 10)++[UInt8.ofNat (48+n % 10)]
theorem Jp:∀ k n,(dg k n).length=k
 | 0,_=>rfl
 | k+1,n=>by simp [dg,Jp k]
theorem Y5 {a b:Nat} (ha:a<256) (hb:b<256) (h:UInt8.ofNat a=UInt8.ofNat b):a=b:=by
 have:=congrArg UInt8.toNat h
 simpa [UInt8.toNat_ofNat',Nat.mod_eq_of_lt ha,Nat.mod_eq_of_lt hb] using this
theorem Aab:∀ (k:Nat) {n m:Nat},n<10 ^ k→m<10 ^ k→dg k n=dg k m→n=m
 | 0,n,m,hn,hm,_=>by simp at hn hm; omega
 | k+1,n,m,hn,hm,h=>by
  unfold dg at h
  obtain⟨h1,h2⟩:=List.append_inj h (by simp [Jp])
  have h3:=Aab k (n:=n / 10) (m:=m / 10) (by rw [Nat.pow_succ] at hn; omega) (by rw [Nat.pow_succ] at hm; omega) h1
  simp only [List.cons.injEq,and_true] at h2
  have h4:=Y5 (a:=48+n % 10) (b:=48+m % 10) (by omega) (by omega) h2
  omega
def Aey:Nat→List UInt8→Nat
 | _,[]=>0
 | j,c::l=>(j+1)*(c.toNat+1)+Aey (j+1) l
def chk (l:List UInt8) (i:Nat):Nat:=(7*(i+1)+Aey 0 l) % 99991
def Uh (l:List UInt8) (i:Nat):List UInt8:=91::(dg 3 l.length++47::(dg 3 (999-l.length)++47::(dg 5 (chk l i)++93::(l++[10]))))
theorem Im (l:List UInt8) (i:Nat):(Uh l i).length=16+l.length:=by simp [Uh,Jp]; omega
theorem Adq (l:List UInt8) (i:Nat):((Uh l i).drop 1).take 3=dg 3 l.length:=by
 simp only [Uh,List.drop_succ_cons,Zay]
 rw [ZaY (by simp [Jp]),Zbl (by simp [Jp])]
theorem OP {α:Type} {a b:List α} {k:Nat} (h:a.length=k) (m:Nat):(a++b).drop (k+m)=b.drop m:=by
 subst h
 rw [List.drop_append,List.drop_eq_nil_of_le (by omega),Za6,Nat.add_sub_cancel_left]
theorem Aez (l:List UInt8) (i:Nat):(Uh l i).drop 9=dg 5 (chk l i)++93::(l++[10]):=by
 show(dg 3 l.length++47::(dg 3 (999-l.length)++47::(dg 5 (chk l i)++93::(l++[10])))).drop (3+5)=_
 rw [OP (Jp 3 _)]
 show(dg 3 (999-l.length)++47::(dg 5 (chk l i)++93::(l++[10]))).drop (3+1)=_
 rw [OP (Jp 3 _)]; rfl
theorem AdK (l:List UInt8) (i:Nat):(Uh l i).drop 15=l++[10]:=by
 rw [show 15=9+6 from rfl,← List.drop_drop,Aez]
 show(dg 5 (chk l i)++93::(l++[10])).drop (5+1)=_
 rw [OP (Jp 5 _)]; rfl
theorem Adr (l:List UInt8) (i:Nat):((Uh l i).drop 15).take l.length=l:=by
 rw [AdK,ZaY (Zal _),List.take_length]
theorem Ads {f b:List UInt8} (h:f <+: b) (h16:16≤f.length):(b.drop 1).take 3=(f.drop 1).take 3∧(b.drop 5).take 3=(f.drop 5).take 3:=by
 obtain⟨t,rfl⟩:=h
 constructor
 · rw [ZaQ (by omega),ZaY (by simp; omega)]
 · rw [ZaQ (by omega),ZaY (by simp; omega)]
theorem Aac {l l':List UInt8} {i i':Nat} (h:l.length≤200) (h':l'.length≤200) (e:((Uh l i).drop 1).take 3=((Uh l' i').drop 1).take 3):l.length=l'.length:=by
 rw [Adq,Adq] at e
 exact Aab 3 (by omega) (by omega) e
theorem Ui {l l' b:List UInt8} {i i':Nat} (h:l.length≤200) (h':l'.length≤200) (p:Uh l i <+: b) (p':Uh l' i' <+: b):Uh l i=Uh l' i':=by
 have e:=Aac h h' ((Ads p (by rw [Im]; omega)).1.symm.trans (Ads p' (by rw [Im]; omega)).1)
 obtain⟨t,rfl⟩:=p
 obtain⟨t',ht⟩:=p'
 exact(List.append_inj ht (by rw [Im,Im,e])).1.symm
theorem Aad {l l':List UInt8} {i i':Nat} (h:l.length≤200) (h':l'.length≤200) (e:Uh l i=Uh l' i'):l=l':=by
 have hl:l.length=l'.length:=by
  have:=congrArg List.length e
  rw [Im,Im] at this; omega
 have:=Adr l i
 rw [e,hl,Adr] at this
 exact this.symm
def OQ:Nat→List (List UInt8)→List UInt8
 | _,[]=>[]
 | i,l::r=>Uh l i++OQ (i+1) r
def Aae (i:Nat) (b l:List UInt8):Prop:=l.length≤200∧Uh l i <+: b
theorem Aae.one {i:Nat} {b l l':List UInt8} (h:Aae i b l) (h':Aae i b l'):l=l':=Aad h.1 h'.1 (Ui h.1 h'.1 h.2 h'.2)
inductive Rd:Nat→Nat→List UInt8→List (List UInt8)→Prop
 | full (i:Nat) (b:List UInt8):Rd 0 i b []
 | stop {k i:Nat} {b:List UInt8} (h:∀ l,¬ Aae i b l):Rd (k+1) i b []
 | more {k i:Nat} {b l:List UInt8} {r:List (List UInt8)} (h:Aae i b l) (hr:Rd k (i+1) (b.drop (16+l.length)) r):Rd (k+1) i b (l::r)
theorem Rd.one:∀ {k i:Nat} {b:List UInt8} {r r':List (List UInt8)},Rd k i b r→Rd k i b r'→r=r'
 | _,_,_,_,_,.full _ _,.full _ _=>rfl
 | _,_,_,_,_,.stop _,.stop _=>rfl
 | _,_,_,_,_,.stop h,.more h' _=>absurd h' (h _)
 | _,_,_,_,_,.more h _,.stop h'=>absurd h (h' _)
 | _,_,_,_,_,.more h hr,.more h' hr'=>by
  have:=h.one h'
  subst this
  rw [hr.one hr']
theorem Rd.app:∀ (ls:List (List UInt8)) {k i:Nat} {b:List UInt8} {r:List (List UInt8)},(∀ l∈ls,l.length≤200)→Rd k (i+ls.length) b r→Rd (k+ls.length) i (OQ i ls++b) (ls++r)
 | [],_,_,_,_,_,h=>h
 | l::ls,k,i,b,r,hs,h=>by
  refine .more (l:=l) ⟨hs l (by simp),?_⟩ ?_
  · exact⟨OQ (i+1) ls++b,by simp [OQ]⟩
  · have:(OQ i (l::ls)++b).drop (16+l.length)=OQ (i+1) ls++b:=by
     rw [← Im l i]; simp [OQ]
    rw [this]
    exact Rd.app ls (fun l hl=>hs l (by simp [hl])) (by simpa [Nat.add_comm,Nat.add_left_comm] using h)
end Go.Proofs.YtkpgggfibljflaaGreatDoor
