/- The plain law. -/
import Derived.Test.YtkpgggfibljflaaGreatDoorgQL02
set_option linter.all false
namespace Go.Proofs.YtkpgggfibljflaaGreatDoor
open Go
def Ul (l:List UInt8):Prop:=∀ b∈l,48≤b.toNat∧b.toNat≤57
def FB (n:Nat) (l:List UInt8):Nat:=l.foldl (fun n b=>10*n+(b.toNat-48)) n
def Y7:Int→List UInt8→Option Int
 | n,[]=>some n
 | n,b::r=>bif Nat.blt b.toNat 48 || Nat.blt 57 b.toNat then none else Y7 (10*n+((b.toNat:Int)-48)) r
def MX (l:List UInt8):Option Int :=
 let minus:=match l with | b::_=>b.toNat == 45 | []=>false
 let d:=bif minus then l.drop 1 else l
 match d with
 | []=>none
 | b::r=>bif Nat.blt 9 d.length || (b.toNat == 48 && (Nat.blt 1 d.length || minus)) then none else(Y7 0 d).map fun n=>bif minus then -n else n
theorem SJ {a b:Nat}:Nat.blt a b=true↔a<b:=⟨fun h=>Zaf h,fun h=>Za1 h⟩
theorem KR {a b:Nat}:Nat.blt a b=false↔b≤a:=by
 rw [← Bool.not_eq_true,SJ]; omega
theorem RA:∀ {l:List UInt8} {n:Nat} {v:Int},Y7 n l=some v↔Ul l∧v=(FB n l:Nat)
 | [],n,v=>by
  simp [Y7,FB,Ul]
  exact⟨fun h=>h.symm,fun h=>h.symm⟩
 | b::r,n,v=>by
  unfold Y7
  cases hb:(Nat.blt b.toNat 48 || Nat.blt 57 b.toNat) with
  | true =>
   simp only [Zac]
   constructor
   · intro h; cases h
   · intro h
     have:=h.1 b (by simp)
     rcases Bool.or_eq_true_iff.1 hb with hb | hb
     · have:=SJ.1 hb; omega
     · have:=SJ.1 hb; omega
  | false =>
   simp only [Zad]
   obtain⟨h1,h2⟩:=Bool.or_eq_false_iff.1 hb
   have h1:=KR.1 h1
   have h2:=KR.1 h2
   have e:(10*(n:Int)+((b.toNat:Int)-48))=((10*n+(b.toNat-48):Nat):Int):=by omega
   rw [e,RA]
   have ev:FB n (b::r)=FB (10*n+(b.toNat-48)) r:=rfl
   rw [ev]
   constructor
   · rintro⟨q1,q2⟩
     refine⟨fun x hx=>?_,q2⟩
     rcases Zam.1 hx with rfl | hx
     · exact⟨h1,h2⟩
     · exact q1 x hx
   · rintro⟨q1,q2⟩
     exact⟨fun x hx=>q1 x (by simp [hx]),q2⟩
theorem XH {l:List UInt8} {v:Int}:Y7 0 l=some v↔Ul l∧v=(FB 0 l:Nat):=RA (n:=0)
theorem Um (n:Nat) (l:List UInt8) (c:UInt8):FB n (l++[c])=10*FB n l+(c.toNat-48):=by simp [FB]
theorem Jq (u:Nat):Ul (Lib.decDigits u)∧FB 0 (Lib.decDigits u)=u:=by
 induction u using Nat.strongRecOn with
 | _ u ih =>
  rw [Lib.decDigits]
  by_cases h:u<10
  · rw [dif_pos h]
    have e:(UInt8.ofNat (48+u)).toNat=48+u:=by simp [UInt8.toNat_ofNat]; omega
    refine⟨fun b hb=>?_,?_⟩
    · have hb:=Za7.1 hb; subst hb; rw [e]; omega
    · simp only [FB,List.foldl_cons,List.foldl_nil]; rw [e]; omega
  · rw [dif_neg h]
    have e:(UInt8.ofNat (48+u % 10)).toNat=48+u % 10:=by simp [UInt8.toNat_ofNat]; omega
    obtain⟨q1,q2⟩:=ih (u / 10) (by omega)
    refine⟨fun b hb=>?_,?_⟩
    · rcases Zap.1 hb with hb | hb
      · exact q1 b hb
      · have hb:=Za7.1 hb; subst hb; rw [e]; omega
    · rw [Um,q2,e]; omega
theorem G8:∀ (u:Nat),∃ c r,Lib.decDigits u=c::r∧(c.toNat=48→u=0∧r=[]):=by
 intro u
 induction u using Nat.strongRecOn with
 | _ u ih =>
  rw [Lib.decDigits]
  by_cases h:u<10
  · rw [dif_pos h]
    refine⟨_,[],rfl,fun hc=>⟨?_,rfl⟩⟩
    have e:(UInt8.ofNat (48+u)).toNat=48+u:=by simp [UInt8.toNat_ofNat]; omega
    omega
  · rw [dif_neg h]
    obtain⟨c,r,h1,h2⟩:=ih (u / 10) (by omega)
    rw [h1]
    refine⟨c,r++[_],rfl,fun hc=>?_⟩
    have:=(h2 hc).1
    omega
theorem OU:∀ {l:List UInt8} {n:Nat},0<n→0<FB n l
 | [],n,h=>h
 | b::r,n,h=>OU (l:=r) (n:=10*n+(b.toNat-48)) (by omega)
theorem K7:∀ (k:Nat)(l:List UInt8),l.length=k+1→Ul l→(∀ c r,l=c::r→c.toNat=48→r=[])→Lib.decDigits (FB 0 l)=l:=by
 intro k
 induction k with
 | zero =>
  intro l hl hd _
  match l,hl with
  | [c],_ =>
   have hc:=hd c (by simp)
   have e:FB 0 [c]=c.toNat-48:=by simp [FB]
   rw [e,Lib.decDigits,dif_pos (by omega)]
   congr 1
   have:48+(c.toNat-48)=c.toNat:=by omega
   rw [this]; simp
 | succ k ih =>
  intro l hl hd hz
  obtain⟨l',c,rfl⟩:∃ l' c,l=l'++[c]:=by
   have hne:l≠[]:=fun h=>by rw [h] at hl; cases hl
   exact⟨l.dropLast,l.getLast hne,(List.dropLast_concat_getLast hne).symm⟩
  have hl':l'.length=k+1:=by simpa using hl
  have hd':Ul l':=fun b hb=>hd b (by simp [hb])
  have hc:=hd c (by simp)
  match l',hl',hd' with
  | b::r,hl',hd' =>
   have hb:b.toNat≠48:=fun hh=>by
    have:=hz b (r++[c]) rfl hh
    simp at this
   have h0:0<FB 0 (b::r):=by
    show 0<FB (10*0+(b.toNat-48)) r
    have:=hd' b (by simp)
    exact OU (by omega)
   have ih:=ih (b::r) hl' hd' (fun c r h hh=>by cases h; exact absurd hh hb)
   rw [Um,Lib.decDigits,dif_neg (by omega)]
   have e1:(10*FB 0 (b::r)+(c.toNat-48)) / 10=FB 0 (b::r):=by omega
   have e2:48+(10*FB 0 (b::r)+(c.toNat-48)) % 10=c.toNat:=by omega
   rw [e1,ih,e2]
   simp
theorem SK:∀ (l:List UInt8)(n:Nat),Ul l→FB n l<(n+1)*10 ^ l.length
 | [],n,_=>by simp [FB]
 | b::r,n,h=>by
  have hb:=h b (by simp)
  have:=SK r (10*n+(b.toNat-48)) (fun x hx=>h x (by simp [hx]))
  show FB (10*n+(b.toNat-48)) r<_
  refine Zai this ?_
  rw [Zas,Nat.pow_succ,Nat.mul_comm (10 ^ r.length) 10,← Nat.mul_assoc]
  exact Nat.mul_le_mul_right _ (by omega)
theorem K8 {u:Nat} (h:u<1000000000):(Lib.decDigits u).length≤9:=by
 rw [Lib.decDigits_length]
 by_cases h0:u=0
 · subst h0; rw [Lib.nDigits_small (by decide)]; decide
 · obtain⟨j,hj⟩:∃ j,Lib.nDigits u=j+1:=⟨Lib.nDigits u-1,by have:=Lib.nDigits_pos u; omega⟩
   rw [hj]
   rcases Za2 8 j with hj8 | hj8
   · exfalso
     have h1:=G8 u
     -- u≥10 ^ j
     have key:∀ (j u:Nat),Lib.nDigits u=j+1→0<u→10 ^ j≤u:=by
      intro j
      induction j with
      | zero=>intro u _ h; rw [Nat.pow_zero]; exact h
      | succ j ih =>
       intro u hu h0
       by_cases hlt:u<10
       · rw [Lib.nDigits_small hlt] at hu; omega
       · rw [Lib.nDigits_big hlt] at hu
         have:=ih (u / 10) (by omega) (by omega)
         rw [Nat.pow_succ]; omega
     have h2:=key j u hj (by omega)
     have h3:10 ^ 9≤10 ^ j:=Nat.pow_le_pow_right (by decide) hj8
     omega
   · omega
theorem Un {v:Int} (h0 : -999999999≤v) (h1:v≤999999999):MX (Ou v)=some v:=by
 rw [MA (by omega) (by omega)]
 unfold Lib.itoa
 by_cases hn:v<0
 · rw [if_pos hn]
   obtain⟨c,r,q1,q2⟩:=G8 v.natAbs
   obtain⟨d1,d2⟩:=Jq v.natAbs
   have hl:=K8 (u:=v.natAbs) (by omega)
   unfold MX
   have e45:((45:UInt8).toNat == 45)=true:=by decide
   simp only [e45,Zac,List.drop_succ_cons,Zay]
   rw [q1] at d1 d2 hl ⊢
   simp only
   have hb:(Nat.blt 9 (c::r).length || (c.toNat == 48 && (Nat.blt 1 (c::r).length || true)))=false:=by
    rw [Bool.or_eq_false_iff]
    refine⟨KR.2 hl,?_⟩
    rw [Bool.and_eq_false_iff]
    refine .inl ?_
    cases hc:c.toNat == 48 with
    | false=>rfl
    | true=>have:=(q2 (by simpa using hc)).1; omega
   rw [hb,Zad,XH.2 ⟨d1,rfl⟩,d2]
   simp
   omega
 · rw [if_neg hn]
   obtain⟨c,r,q1,q2⟩:=G8 v.toNat
   obtain⟨d1,d2⟩:=Jq v.toNat
   have hl:=K8 (u:=v.toNat) (by omega)
   rw [q1] at d1 d2 hl ⊢
   have hc:=d1 c (by simp)
   have e45:(c.toNat == 45)=false:=by simp; omega
   unfold MX
   simp only [e45,Zad]
   have hb:(Nat.blt 9 (c::r).length || (c.toNat == 48 && (Nat.blt 1 (c::r).length || false)))=false:=by
    rw [Bool.or_eq_false_iff]
    refine⟨KR.2 hl,?_⟩
    rw [Bool.and_eq_false_iff]
    cases hc:c.toNat == 48 with
    | false=>exact .inl rfl
    | true=>have:=(q2 (by simpa using hc)).2; subst this; exact .inr rfl
   rw [hb,Zad,XH.2 ⟨d1,rfl⟩,d2]
   simp
   omega
theorem SL:∀ (l:List UInt8)(n:Nat),Ul l→(n+1)*10 ^ l.length≤10000000000→Lib.parseUint10 n l=.ok (FB n l)
 | [],n,_,_=>rfl
 | b::r,n,h,hn=>by
  have hb:=h b (by simp)
  unfold Lib.parseUint10
  rw [if_pos hb]
  rw [Zas,Nat.pow_succ,Nat.mul_comm (10 ^ r.length) 10,← Nat.mul_assoc] at hn
  have hp:1≤10 ^ r.length:=Nat.one_le_pow _ _ (by decide)
  have hs:(n+1)*10≤10000000000:=ZaF (Nat.le_mul_of_pos_right _ hp) hn
  rw [if_neg (by omega),if_neg (by omega)]
  have e:n*10+(b.toNat-48)=10*n+(b.toNat-48):=by omega
  rw [e]
  exact SL r _ (fun x hx=>h x (by simp [hx])) (ZaF (Nat.mul_le_mul_right _ (by omega)) hn)
theorem RB {l:List UInt8} {v:Int} (h:MX l=some v):Ou v=l∧Lib.atoiAll l=.ok v∧-999999999≤v∧v≤999999999:=by
 unfold MX at h
 match l,h with
 | [],h=>simp at h
 | b::r,h =>
  cases hb:b.toNat == 45 with
  | true =>
   simp only [hb,Zac,List.drop_succ_cons,Zay] at h
   have hb:=eq_of_beq hb
   match r,h with
   | [],h=>cases h
   | c::t,h =>
    simp only at h
    cases hq:(Nat.blt 9 (c::t).length || (c.toNat == 48 && (Nat.blt 1 (c::t).length || true))) with
    | true=>rw [hq] at h; cases h
    | false =>
     rw [hq,Zad] at h
     obtain⟨w,hw,rfl⟩:=Zat.1 h
     obtain⟨d1,d2⟩:=XH.1 hw
     obtain⟨q1,q2⟩:=Bool.or_eq_false_iff.1 hq
     have q1:=KR.1 q1
     have q2:c.toNat≠48:=by simpa using q2
     have hlt:=SK (c::t) 0 d1
     have hle:10 ^ (c::t).length≤10 ^ 9:=Nat.pow_le_pow_right (by decide) q1
     have hdec:=K7 t.length (c::t) rfl d1 (fun c r h hh=>by cases h; exact absurd hh q2)
     have hpos:0<FB 0 (c::t):=by
      show 0<FB (10*0+(c.toNat-48)) t
      have:=d1 c (by simp)
      exact OU (by omega)
     generalize hu:FB 0 (c::t)=u at *
     subst d2
     have e:b=45:=UInt8.toNat_inj.1 (by rw [hb]; rfl)
     refine⟨?_,?_,by omega,by omega⟩
     · rw [MA (by omega) (by omega)]
       unfold Lib.itoa
       rw [if_pos (by omega)]
       have:(-(u:Int)).natAbs=u:=by omega
       rw [this,hdec,e]
     · unfold Lib.atoiAll
       have hm:Lib.parseMag (c::t)=.ok u:=by
        unfold Lib.parseMag
        rw [if_neg (by simp),SL _ 0 d1 (by omega),hu]
       have e1:(if b.toNat=43∨b.toNat=45 then c::t else b::c::t)=c::t:=if_pos (.inr hb)
       simp only [e1,hm]
       rw [if_neg (fun h=>h.1 hb),if_neg (fun h=>by have:=h.2; omega),if_pos hb]
  | false =>
   simp only [hb,Zad] at h
   cases hq:(Nat.blt 9 (b::r).length || (b.toNat == 48 && (Nat.blt 1 (b::r).length || false))) with
   | true=>rw [hq] at h; cases h
   | false =>
    rw [hq,Zad] at h
    obtain⟨w,hw,rfl⟩:=Zat.1 h
    obtain⟨d1,d2⟩:=XH.1 hw
    obtain⟨q1,q2⟩:=Bool.or_eq_false_iff.1 hq
    have q1:=KR.1 q1
    have hlt:=SK (b::r) 0 d1
    have hle:10 ^ (b::r).length≤10 ^ 9:=Nat.pow_le_pow_right (by decide) q1
    have hdec:=K7 r.length (b::r) rfl d1 (fun c t h hh=>by
     cases h
     rw [hh] at q2
     simp only [beq_self_eq_true,ZaS,Bool.or_false] at q2
     have q2:=KR.1 q2
     simp at q2
     exact q2)
    have hbd:=d1 b (by simp)
    generalize hu:FB 0 (b::r)=u at *
    subst d2
    refine⟨?_,?_,by omega,by omega⟩
    · rw [MA (by omega) (by omega)]
      unfold Lib.itoa
      rw [if_neg (by omega)]
      have:((u:Int)).toNat=u:=by omega
      rw [this,hdec]
    · unfold Lib.atoiAll
      have hm:Lib.parseMag (b::r)=.ok u:=by
       unfold Lib.parseMag
       rw [if_neg (by simp),SL _ 0 d1 (by omega),hu]
      have n1 : ¬ (b.toNat=43∨b.toNat=45):=by omega
      have n2 : ¬ b.toNat=45:=by omega
      have e1:(if b.toNat=43∨b.toNat=45 then r else b::r)=b::r:=if_neg n1
      simp only [e1,hm]
      rw [if_neg (fun h=>by have:=h.2; omega),if_neg (fun h=>n2 h.1),if_neg n2]
end Go.Proofs.YtkpgggfibljflaaGreatDoor
