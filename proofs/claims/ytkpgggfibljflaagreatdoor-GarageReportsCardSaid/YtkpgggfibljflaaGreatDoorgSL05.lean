/- The plain law. -/
import Derived.Test.YtkpgggfibljflaaGreatDoorgSL04
set_option linter.all false
set_option maxRecDepth 100000
namespace Go.Proofs.YtkpgggfibljflaaGreatDoor
open Go Go.RowKit Go.Proofs
def Aks:AA:=AA.mk 0 0 (Rg.mk 0 0) 0
abbrev Ay (w:Ai) (i:Nat):AA:=w.duties.getD i Aks
def Fz (w:Ai) (r:List Int) (k d:Int) (i:Nat):Bool:=decide (r.getD i (-1)=k) && decide ((Ay w i).day=d)
def BT (P:Nat→Bool):Nat→Nat→Option Nat
 | 0,_=>none
 | m+1,s=>bif P s then some s else BT P m (s+1)
theorem F6 {P:Nat→Bool}:∀ {m s:Nat},BT P m s=none↔∀ j,s≤j→j<s+m→P j=false
 | 0,s=>⟨fun _ j h1 h2=>by omega,fun _=>rfl⟩
 | m+1,s=>by
  unfold BT
  cases h:P s with
  | true =>
   simp only [Zab]
   constructor
   · intro hh; cases hh
   · intro hh; rw [hh s (by omega) (by omega)] at h; cases h
  | false =>
   rw [Zad,F6]
   constructor
   · intro hh j h1 h2
     by_cases e:j=s
     · rw [e]; exact h
     · exact hh j (by omega) (by omega)
   · intro hh j h1 h2
     exact hh j (by omega) (by omega)
theorem F7 {P:Nat→Bool}:∀ {m s j:Nat},BT P m s=some j→s≤j∧j<s+m∧P j=true∧∀ i,s≤i→i<j→P i=false
 | 0,s,j,h=>by cases h
 | m+1,s,j,h=>by
  unfold BT at h
  cases hp:P s with
  | true=>rw [hp,Zab] at h; cases h; exact⟨by omega,by omega,hp,fun i h1 h2=>by omega⟩
  | false =>
   rw [hp,Zad] at h
   obtain⟨a,b,c,d⟩:=F7 h
   refine⟨by omega,by omega,c,fun i h1 h2=>?_⟩
   by_cases e:i=s
   · rw [e]; exact hp
   · exact d i (by omega) h2
theorem RN {P:Nat→Bool} {m s j:Nat} (h1:s≤j) (h2:j<s+m) (h3:P j=true) (h4:∀ i,s≤i→i<j→P i=false):BT P m s=some j:=by
 cases h:BT P m s with
 | none=>rw [F6.1 h j h1 h2] at h3; cases h3
 | some i =>
  obtain⟨a,b,c,d⟩:=F7 h
  by_cases e:i<j
  · rw [h4 i a e] at c; cases c
  · by_cases e2:j<i
    · rw [d j h1 e2] at h3; cases h3
    · rw [show i=j by omega]
theorem VC {P:Nat→Bool} (i:Nat):BT P (i+1) 0=match BT P i 0 with
  | some j=>some j
  | none=>bif P i then some i else none:=by
 cases h:BT P i 0 with
 | some j =>
  obtain⟨a,b,c,d⟩:=F7 h
  exact RN (by omega) (by omega) c d
 | none =>
  simp only
  cases hp:P i with
  | true=>exact RN (by omega) (by omega) hp fun j h1 h2=>F6.1 h j h1 (by omega)
  | false =>
   exact F6.2 fun j h1 h2=>by
    by_cases e:j=i
    · rw [e]; exact hp
    · exact F6.1 h j h1 (by omega)
def Ajm (w:Ai) (s:Aj):Option Nat→Aj
 | none=>s
 | some i=>Hh s (Ay w i) (Ay w i).off.hi
def OE (w:Ai) (r:List Int) (k:Nat):Nat→Aj
 | 0=>(AI w).getD k Ie
 | d+1=>Ajm w (OE w r k d) (BT (Fz w r (k:Int) (d:Int)) w.duties.length 0)
abbrev JO (w:Ai) (r:List Int) (k d i:Nat):Aj:=Ajm w (OE w r k d) (BT (Fz w r (k:Int) (d:Int)) i 0)
def QM (w:Ai) (r:List Int) (d j k:Nat):Prop:=(∀ i,i<j→Fz w r (k:Int) (d:Int) i=false)∧Jz w (k:Int) (j:Int) (Ay w j) (OE w r k d)=[]
theorem Afd (s:Aj) (x:AA) (e:Int):(Hh s x e).day=x.day:=by
 unfold Hh
 by_cases h:s.day=x.day
 · rw [Zaf h,Zab]; exact h
 · rw [Zae h,Zad]
   cases s.day != R2 (x.day-1) <;> rfl
theorem I7 {w:Ai} {i:Nat} (h:i<w.duties.length):Ay w i=w.duties[i]:=by simp [Ay,List.getD,Zap h]
theorem Y4 {w:Ai} {r:List Int} {k d i:Nat} (h:Fz w r (k:Int) (d:Int) i=false):JO w r k d (i+1)=JO w r k d i:=by
 unfold JO
 rw [VC,h]
 cases BT (Fz w r (k:Int) (d:Int)) i 0 <;> rfl
theorem WO {w:Ai} {r:List Int} (hro:Dr w r) (h6:w.drivers.length≤6) (d:Nat):∀ (m i:Nat)(st:List Ah×List Aj),i+m=w.duties.length→st.1=[]→st.2.length=6→(∀ k:Nat,k<6→st.2.getD k Ie=JO w r k d i)→((CH w r (d:Int) i st (w.duties.drop i)).1=[]↔∀ j,i≤j→j<w.duties.length→(Ay w j).day=(d:Int)→∀ k:Nat,r.getD j (-1)=(k:Int)→QM w r d j k)∧((CH w r (d:Int) i st (w.duties.drop i)).1=[]→(CH w r (d:Int) i st (w.duties.drop i)).2.length=6∧∀ k:Nat,k<6→(CH w r (d:Int) i st (w.duties.drop i)).2.getD k Ie=JO w r k d w.duties.length)
 | 0,i,st,hi,h1,h2,h3=>by
  have hd:w.duties.drop i=[]:=by simp; omega
  rw [hd]
  simp only [CH]
  refine⟨⟨fun _ j a b=>by omega,fun _=>h1⟩,fun _=>⟨h2,?_⟩⟩
  rw [show w.duties.length=i by omega]; exact h3
 | m+1,i,st,hi,h1,h2,h3=>by
  have hx:i<w.duties.length:=by omega
  have hd:w.duties.drop i=w.duties[i]::w.duties.drop (i+1):=Zai hx
  rw [hd]
  simp only [CH]
  rw [← I7 hx]
  have same:CQ w r (d:Int) st i (Ay w i)=st→(∀ k:Nat,Fz w r (k:Int) (d:Int) i=false)→((CH w r (d:Int) (i+1) (CQ w r (d:Int) st i (Ay w i)) (w.duties.drop (i+1))).1=[]↔∀ j,i≤j→j<w.duties.length→(Ay w j).day=(d:Int)→∀ k:Nat,r.getD j (-1)=(k:Int)→QM w r d j k)∧((CH w r (d:Int) (i+1) (CQ w r (d:Int) st i (Ay w i)) (w.duties.drop (i+1))).1=[]→(CH w r (d:Int) (i+1) (CQ w r (d:Int) st i (Ay w i)) (w.duties.drop (i+1))).2.length=6∧∀ k:Nat,k<6→(CH w r (d:Int) (i+1) (CQ w r (d:Int) st i (Ay w i)) (w.duties.drop (i+1))).2.getD k Ie=JO w r k d w.duties.length):=fun e hP=>by
   rw [e]
   obtain⟨a,b⟩:=WO hro h6 d m (i+1) st (by omega) h1 h2 (fun k hk=>by rw [Y4 (hP k)]; exact h3 k hk)
   refine⟨a.trans ⟨fun h j q1 q2 q3 k q4=>?_,fun h j q1 q2 q3 k q4=>h j (by omega) q2 q3 k q4⟩,b⟩
   by_cases hj:j=i
   · subst hj
     have:=hP k
     unfold Fz at this
     rw [q3,q4] at this
     simp at this
   · exact h j (by omega) q2 q3 k q4
  by_cases hday:(Ay w i).day=(d:Int)
  · obtain⟨b0,b1⟩:=O8 hro i
    by_cases hn:r.getD i (-1)=-1
    · refine same ?_ fun k=>?_
      · unfold CQ
        rw [Zaf hday,Zaf hn]; rfl
      · unfold Fz
        rw [hn,Zae (show ¬ (-1:Int)=(k:Int) by omega)]; rfl
    · obtain⟨k0,hk0⟩:∃ k0:Nat,r.getD i (-1)=k0:=⟨(r.getD i (-1)).toNat,by omega⟩
      have hk6:k0<6:=by omega
      have hstep:CQ w r (d:Int) st i (Ay w i)=(st.1++Jz w (k0:Int) (i:Int) (Ay w i) (JO w r k0 d i),st.2.set k0 (Hh (JO w r k0 d i) (Ay w i) (Ay w i).off.hi)):=by
       unfold CQ
       rw [Zaf hday,Zae hn,hk0]
       simp only [Zab,Zad]
       rw [show((k0:Int)).toNat=k0 from rfl,h3 k0 hk6]
      have hon:Fz w r (k0:Int) (d:Int) i=true:=by
       unfold Fz
       rw [hk0,hday]; simp
      rw [hstep,h1,Zax]
      by_cases hb:Jz w (k0:Int) (i:Int) (Ay w i) (JO w r k0 d i)=[]
      · have hf:BT (Fz w r (k0:Int) (d:Int)) i 0=none:=by
         cases hf:BT (Fz w r (k0:Int) (d:Int)) i 0 with
         | none=>rfl
         | some j =>
          exfalso
          have h2r:=(Sp.1 hb).2.2.1
          unfold JO at h2r
          rw [hf] at h2r
          obtain⟨_,_,c,_⟩:=F7 hf
          have hdj:(Ay w j).day=(d:Int):=by
           unfold Fz at c
           rw [Zan] at c
           simpa using c.2
          have:((Ajm w (OE w r k0 d) (some j)).day != (Ay w i).day)=true:=h2r
          rw [show(Ajm w (OE w r k0 d) (some j)).day=(Ay w j).day from Afd _ _ _,hdj,hday] at this
          simp at this
        have hcur:JO w r k0 d i=OE w r k0 d:=by unfold JO; rw [hf]; rfl
        rw [hb]
        have hgood:QM w r d i k0:=⟨fun j hj=>F6.1 hf j (by omega) (by omega),by rw [← hcur]; exact hb⟩
        obtain⟨a,b⟩:=WO hro h6 d m (i+1) ([],st.2.set k0 (Hh (JO w r k0 d i) (Ay w i) (Ay w i).off.hi)) (by omega) rfl (by simp [h2]) (fun k hk=>by
         show(st.2.set k0 _).getD k Ie=_
         rw [O7]
         by_cases hkk:k0=k
         · subst hkk
           rw [if_pos ⟨rfl,by omega⟩]
           rw [hcur]
           unfold JO
           rw [VC,hf,hon]; rfl
         · rw [if_neg fun h=>hkk h.1,h3 k hk]
           refine(Y4 ?_).symm
           unfold Fz
           rw [hk0,Zae (show ¬ (k0:Int)=(k:Int) by omega)]; rfl)
        refine⟨a.trans ⟨fun h j q1 q2 q3 k q4=>?_,fun h j q1 q2 q3 k q4=>h j (by omega) q2 q3 k q4⟩,b⟩
        by_cases hj:j=i
        · subst hj
          rw [hk0] at q4
          have:k0=k:=by omega
          subst this
          exact hgood
        · exact h j (by omega) q2 q3 k q4
      · have hne:(CH w r (d:Int) (i+1) (Jz w (k0:Int) (i:Int) (Ay w i) (JO w r k0 d i),st.2.set k0 (Hh (JO w r k0 d i) (Ay w i) (Ay w i).off.hi)) (w.duties.drop (i+1))).1≠[]:=fun h=>by
         obtain⟨e,he⟩:=Sq w r (d:Int) (w.duties.drop (i+1)) (i+1) (Jz w (k0:Int) (i:Int) (Ay w i) (JO w r k0 d i),st.2.set k0 (Hh (JO w r k0 d i) (Ay w i) (Ay w i).off.hi))
         exact hb (Sr he h)
        refine⟨⟨fun h=>absurd h hne,fun h=>?_⟩,fun h=>absurd h hne⟩
        exfalso
        obtain⟨g1,g2⟩:=h i (Zas _) hx hday k0 hk0
        have hf:BT (Fz w r (k0:Int) (d:Int)) i 0=none:=F6.2 fun j _ hj=>g1 j (by omega)
        have hcur:JO w r k0 d i=OE w r k0 d:=by unfold JO; rw [hf]; rfl
        rw [hcur] at hb
        exact hb g2
  · refine same ?_ fun k=>?_
    · unfold CQ
      rw [Zae hday]; rfl
    · unfold Fz
      rw [Zae hday,Zbm]
theorem BX {w:Ai} (h:AP w=0) {j:Nat} (hj:j<w.duties.length):G5 (Ay w j)=true:=by
 rw [I7 hj]
 exact(PM h).1 _ (Zav hj)
def L4 (w:Ai) (r:List Int) (d:Nat):Prop:=∀ j,j<w.duties.length→(d:Int)≤(Ay w j).day→∀ k:Nat,r.getD j (-1)=(k:Int)→QM w r (Ay w j).day.toNat j k
theorem Y5 {w:Ai} {r:List Int} (hro:Dr w r) (he:AP w=0):∀ (m d:Nat)(st:List Ah×List Aj),d+m=7→st.1=[]→st.2.length=6→(∀ k:Nat,k<6→st.2.getD k Ie=OE w r k d)→((Cx w r m d st).1=[]↔L4 w r d)∧((Cx w r m d st).1=[]→∀ k:Nat,k<6→(Cx w r m d st).2.getD k Ie=OE w r k 7)
 | 0,d,st,hd,h1,h2,h3=>by
  refine⟨⟨fun _ j hj hdj=>?_,fun _=>h1⟩,fun _=>by rw [show(7:Nat)=d by omega]; exact h3⟩
  obtain⟨_,q,_⟩:=BO (BX he hj)
  omega
 | m+1,d,st,hd,h1,h2,h3=>by
  have h6:=(Bs he).2
  simp only [Cx]
  obtain⟨a,b⟩:=WO hro h6 d w.duties.length 0 st (by omega) h1 h2 h3
  rw [Zar] at a b
  have a':(CH w r (d:Int) 0 st w.duties).1=[]↔∀ j,j<w.duties.length→(Ay w j).day=(d:Int)→∀ k:Nat,r.getD j (-1)=(k:Int)→QM w r d j k:=a.trans ⟨fun h j=>h j (by omega),fun h j _=>h j⟩
  by_cases hz:(CH w r (d:Int) 0 st w.duties).1=[]
  · obtain⟨b1,b2⟩:=b hz
    obtain⟨c1,c2⟩:=Y5 hro he m (d+1) (CH w r (d:Int) 0 st w.duties) (by omega) hz b1 b2
    refine⟨c1.trans ⟨fun h j hj hdj k hk=>?_,fun h j hj hdj k hk=>h j hj (by omega) k hk⟩,c2⟩
    by_cases e:(Ay w j).day=(d:Int)
    · have:=a'.1 hz j hj e k hk
      rw [e]; exact this
    · exact h j hj (by omega) k hk
  · have hne:(Cx w r m (d+1) (CH w r (d:Int) 0 st w.duties)).1≠[]:=fun h=>by
     obtain⟨e,he⟩:=V2 w r m (d+1) (CH w r (d:Int) 0 st w.duties)
     exact hz (Sr he h)
    refine⟨⟨fun h=>absurd h hne,fun h=>?_⟩,fun h=>absurd h hne⟩
    exact absurd (a'.2 fun j hj hdj k hk=>by
     have:=h j hj (by omega) k hk
     rw [hdj] at this; exact this) hz
theorem Adt {w:Ai} {r:List Int} (hro:Dr w r) (he:AP w=0):Eu w r=[]↔L4 w r 0∧∀ k,k<w.drivers.length→¬ (OE w r k 7).used>w.hours:=by
 have h6:=(Bs he).2
 obtain⟨a,b⟩:=Y5 hro he 7 0 ([],AI w) rfl rfl (Jb h6) (fun k _=>rfl)
 rw [I5,a]
 constructor
 · rintro⟨p,q⟩
   exact⟨p,fun k hk=>by rw [← b (a.2 p) k (by omega)]; exact q k hk⟩
 · rintro⟨p,q⟩
   exact⟨p,fun k hk=>by rw [b (a.2 p) k (by omega)]; exact q k hk⟩
def L5 (w:Ai) (r:List Int) (k:Nat):Nat→Int
 | 0=>((AI w).getD k Ie).free
 | d+1=>match BT (Fz w r (k:Int) (d:Int)) w.duties.length 0 with
  | some i=>1440*(d:Int)+(Ay w i).off.hi
  | none=>L5 w r k d
def Lk (w:Ai) (r:List Int) (k:Nat):Nat→Nat
 | 0=>0
 | d+1=>match BT (Fz w r (k:Int) (d:Int)) w.duties.length 0 with
  | some _=>Lk w r k d+1
  | none=>0
def AaP (w:Ai) (r:List Int) (k:Nat):Nat→Int
 | 0=>0
 | d+1=>AaP w r k d+match BT (Fz w r (k:Int) (d:Int)) w.duties.length 0 with
  | some i=>(Ay w i).off.hi-(Ay w i).on
  | none=>0
def PP (w:Ai) (r:List Int) (d:Nat):Prop:=∀ j,j<w.duties.length→(Ay w j).day<(d:Int)→∀ k:Nat,r.getD j (-1)=(k:Int)→QM w r (Ay w j).day.toNat j k
theorem PP.less {w:Ai} {r:List Int} {d:Nat} (h:PP w r (d+1)):PP w r d:=fun j hj hd k hk=>h j hj (by omega) k hk
theorem S9 {w:Ai} (hw:wkOk w) {k:Nat} (hk:k<w.drivers.length):∃ x off,w.drivers[k]=AJ.mk [x] [] [] off 0 0∧(AI w).getD k Ie=Aj.mk off 0 0 (-1):=by
 obtain⟨x,off,e⟩:=hw.2.2.2.2.2.2 _ (Zav hk)
 refine⟨x,off,e,?_⟩
 unfold AI
 rw [ZaT,Zay (by simpa using hk),ZaI,Zap hk,e]
 rfl
structure Aj5 (w:Ai) (r:List Int) (k d:Nat):Prop where
 inv:Lj ((d:Int)-1) (OE w r k d)
 free:(OE w r k d).free=L5 w r k d
 row:(if (OE w r k d).day=(d:Int)-1 then(OE w r k d).row else 0)=(Lk w r k d:Int)
 used:(OE w r k d).used=AaP w r k d
theorem SB {w:Ai} {r:List Int} (hw:wkOk w) (he:AP w=0) {k:Nat} (hk:k<w.drivers.length):∀ d:Nat,d≤7→PP w r d→Aj5 w r k d
 | 0,_,_=>by
  obtain⟨x,off,e1,e2⟩:=S9 hw hk
  have hd:=(PM he).2 _ (Zav hk)
  rw [e1] at hd
  unfold Nt at hd
  rw [Zan,Bx] at hd
  have hd2:=hd.2
  simp only at hd2
  have es:OE w r k 0=Aj.mk off 0 0 (-1):=e2
  refine⟨?_,rfl,?_,?_⟩
  · rw [es]; unfold Lj; simp only; omega
  · rw [es]; rfl
  · rw [es]; rfl
 | d+1,hd,hg=>by
  have ih:=SB hw he hk d (by omega) hg.less
  obtain⟨i1,i2,i3,i4⟩:=ih
  cases hf:BT (Fz w r (k:Int) (d:Int)) w.duties.length 0 with
  | none =>
   have es:OE w r k (d+1)=OE w r k d:=by
    show Ajm w (OE w r k d) (BT (Fz w r (k:Int) (d:Int)) w.duties.length 0)=_
    rw [hf]; rfl
   refine⟨?_,?_,?_,?_⟩
   · rw [es]; exact i1.up (by omega)
   · rw [es,i2]; show _=(match BT (Fz w r (k:Int) (d:Int)) w.duties.length 0 with | some i=>_ | none=>_); rw [hf]
   · rw [es]
     have:=i1.2.1
     rw [if_neg (by omega)]
     show _=((match BT (Fz w r (k:Int) (d:Int)) w.duties.length 0 with | some _=>Lk w r k d+1 | none=>0:Nat):Int)
     rw [hf]; rfl
   · rw [es,i4]
     show _=AaP w r k d+(match BT (Fz w r (k:Int) (d:Int)) w.duties.length 0 with | some i=>_ | none=>0)
     rw [hf]; simp
  | some i =>
   obtain⟨_,hi,c,hfst⟩:=F7 hf
   rw [Zaw] at hi
   have c':=c
   unfold Fz at c'
   rw [Zan,decide_eq_true_eq,decide_eq_true_eq] at c'
   obtain⟨hr,hday⟩:=c'
   have es:OE w r k (d+1)=Hh (OE w r k d) (Ay w i) (Ay w i).off.hi:=by
    show Ajm w (OE w r k d) (BT (Fz w r (k:Int) (d:Int)) w.duties.length 0)=_
    rw [hf]; rfl
   have hgood:=hg i hi (by omega) k hr
   rw [hday,show((d:Int)).toNat=d from rfl] at hgood
   have hdr:=BX he hi
   obtain⟨d1,d2,d3,d4,d5,d6,d7⟩:=BO hdr
   have hinv:Lj (d:Int) (OE w r k d):=i1.up (by omega)
   have hdd:=i1.2.1
   have hex:=So (e:=(Ay w i).off.hi) hinv hdr (by omega) (by omega) (by omega) (by omega)
   have hinv':=AeY hw hinv hdr (by omega) hday hgood.2
   refine⟨?_,?_,?_,?_⟩
   · rw [es,show((d+1:Nat):Int)-1=(d:Int) by omega]; exact hinv'
   · rw [es,hex]
     show(Ay w i).day*1440+(Ay w i).off.hi=(match BT (Fz w r (k:Int) (d:Int)) w.duties.length 0 with | some i=>1440*(d:Int)+(Ay w i).off.hi | none=>L5 w r k d)
     rw [hf]; simp only; omega
   · rw [es,hex]
     show(if (Ay w i).day=((d+1:Nat):Int)-1 then(if (OE w r k d).day=(Ay w i).day-1 then(OE w r k d).row+1 else 1) else 0)=((match BT (Fz w r (k:Int) (d:Int)) w.duties.length 0 with | some _=>Lk w r k d+1 | none=>0:Nat):Int)
     rw [hf,if_pos (by omega),hday]
     simp only
     split at i3
     · rename_i h; rw [if_pos h]; omega
     · rename_i h; rw [if_neg h]; omega
   · rw [es,hex]
     show(OE w r k d).used+((Ay w i).off.hi-(Ay w i).on)=AaP w r k d+(match BT (Fz w r (k:Int) (d:Int)) w.duties.length 0 with | some i=>(Ay w i).off.hi-(Ay w i).on | none=>0)
     rw [hf,i4]
def Ahp (w:Ai) (r:List Int) (k j:Nat):Prop:=Ff w (k:Int) (Ay w j) Ie 0=true∧BT (Fz w r (k:Int) (Ay w j).day) w.duties.length 0=some j∧(Ay w j).day*1440+(Ay w j).on-L5 w r k (Ay w j).day.toNat≥600∧Lk w r k ((Ay w j).day.toNat+1)≤5
theorem Y6 {w:Ai} {r:List Int} (hw:wkOk w) (he:AP w=0) {j k:Nat} (hj:j<w.duties.length) (hk:k<w.drivers.length) (hr:r.getD j (-1)=(k:Int)) (hg:PP w r (Ay w j).day.toNat):QM w r (Ay w j).day.toNat j k↔Ahp w r k j:=by
 have hdr:=BX he hj
 obtain⟨d1,d2,d3,d4,d5,d6,d7⟩:=BO hdr
 obtain⟨d,hd⟩:∃ d:Nat,(Ay w j).day=d:=⟨(Ay w j).day.toNat,by omega⟩
 unfold Ahp
 rw [hd] at hg ⊢
 rw [show((d:Int)).toNat=d from rfl] at hg ⊢
 obtain⟨i1,i2,i3,i4⟩:=SB hw he hk d (by omega) hg
 have hinv:Lj (d:Int) (OE w r k d):=i1.up (by omega)
 have hdd:=i1.2.1
 have hri:=V1 (k:=(k:Int)) hw hinv hdr (by omega)
 have hon:Fz w r (k:Int) (d:Int) j=true:=by
  unfold Fz
  rw [hr,hd]; simp
 have hfst:(∀ i,i<j→Fz w r (k:Int) (d:Int) i=false)↔BT (Fz w r (k:Int) (d:Int)) w.duties.length 0=some j:=by
  constructor
  · intro h
    exact RN (by omega) (by omega) hon fun i _ hi=>h i hi
  · intro h i hi
    exact(F7 h).2.2.2 i (by omega) hi
 unfold QM
 rw [Sp,hri,hfst,AaC w (k:Int) (Ay w j) (OE w r k d) Ie,i2,hd]
 constructor
 · rintro⟨p,q,_,s,t⟩
   refine⟨q,p,s,?_⟩
   show(match BT (Fz w r (k:Int) (d:Int)) w.duties.length 0 with | some _=>Lk w r k d+1 | none=>0)≤5
   rw [p]
   simp only
   split at i3
   · rename_i h; rw [if_pos h] at t; omega
   · rename_i h; rw [if_neg h] at t; omega
 · rintro⟨q,p,s,t⟩
   refine⟨p,q,by omega,s,?_⟩
   have t':(match BT (Fz w r (k:Int) (d:Int)) w.duties.length 0 with | some _=>Lk w r k d+1 | none=>0)≤5:=t
   rw [p] at t'
   simp only at t'
   split at i3
   · rename_i h; rw [if_pos h]; omega
   · rename_i h; rw [if_neg h]; omega
theorem Afe {w:Ai} {r:List Int} (hw:wkOk w) (he:AP w=0) (hro:Dr w r):L4 w r 0↔∀ j,j<w.duties.length→∀ k:Nat,r.getD j (-1)=(k:Int)→Ahp w r k j:=by
 have hkn:∀ j (k:Nat),r.getD j (-1)=(k:Int)→k<w.drivers.length:=fun j k h=>by
  have:=O8 hro j
  omega
 constructor
 · intro h j hj k hk
   exact(Y6 hw he hj (hkn j k hk) hk fun i hi _ q hq=>h i hi (by have:=(BO (BX he hi)).1; omega) q hq).1 (h j hj (by have:=(BO (BX he hj)).1; omega) k hk)
 · intro h
   have key:∀ d:Nat,PP w r d:=by
    intro d
    induction d with
    | zero =>
     intro j hj hd
     have:=(BO (BX he hj)).1
     omega
    | succ d ih =>
     intro j hj hd k hk
     by_cases e:(Ay w j).day<(d:Int)
     · exact ih j hj e k hk
     · have e2:(Ay w j).day.toNat=d:=by omega
       exact(Y6 hw he hj (hkn j k hk) hk (by rw [e2]; exact ih)).2 (h j hj k hk)
   intro j hj _ k hk
   exact key 7 j hj (by have:=(BO (BX he hj)).2.1; omega) k hk
def HA (f:Nat→Int):Nat→Nat→Int
 | 0,_=>0
 | m+1,s=>f s+HA f m (s+1)
theorem Y7 (f g:Nat→Int):∀ m s,HA (fun i=>f i+g i) m s=HA f m s+HA g m s
 | 0,_=>by simp [HA]
 | m+1,s=>by simp only [HA]; rw [Y7 f g m]; omega
theorem Ku {f g:Nat→Int}:∀ {m s:Nat},(∀ i,s≤i→i<s+m→f i=g i)→HA f m s=HA g m s
 | 0,_,_=>rfl
 | m+1,s,h=>by
  simp only [HA]
  rw [h s (by omega) (by omega),Ku fun i h1 h2=>h i (by omega) (by omega)]
theorem PQ:∀ m s,HA (fun _=>0) m s=0
 | 0,_=>rfl
 | m+1,s=>by simp only [HA]; rw [PQ m]; rfl
theorem Y8 {P:Nat→Bool} {x:Nat→Int} (hu:∀ i j,i<j→P i=true→P j=false):∀ m s,HA (fun i=>bif P i then x i else 0) m s=match BT P m s with
  | some i=>x i
  | none=>0
 | 0,_=>rfl
 | m+1,s=>by
  simp only [HA]
  unfold BT
  cases hp:P s with
  | true =>
   simp only [Zab]
   rw [Ku (g:=fun _=>0) fun i h1 h2=>by rw [hu s i (by omega) hp]; rfl,PQ]
   omega
  | false =>
   simp only [Zad]
   rw [Y8 hu m (s+1)]
   omega
def N0 (w:Ai) (r:List Int) (k:Nat) (i:Nat):Int:=bif decide (r.getD i (-1)=(k:Int)) then(Ay w i).off.hi-(Ay w i).on else 0
def Aff (w:Ai) (r:List Int) (k:Nat):Nat→Nat→Int
 | 0,_=>0
 | d+1,i=>Aff w r k d i+(bif Fz w r (k:Int) (d:Int) i then(Ay w i).off.hi-(Ay w i).on else 0)
theorem Y9 {w:Ai} (r:List Int) (k:Nat) {i:Nat} (h0:0≤(Ay w i).day):∀ d:Nat,Aff w r k d i=if (Ay w i).day<(d:Int) then N0 w r k i else 0
 | 0=>by rw [if_neg (by omega)]; rfl
 | d+1=>by
  show Aff w r k d i+_=_
  rw [Y9 r k h0 d]
  unfold N0 Fz
  by_cases h1:r.getD i (-1)=(k:Int)
  · rw [Zaf h1]
    by_cases h2:(Ay w i).day=(d:Int)
    · rw [Zaf h2,if_neg (by omega),if_pos (by omega)]; simp
    · rw [Zae h2]
      by_cases h3:(Ay w i).day<(d:Int)
      · rw [if_pos h3,if_pos (by omega)]; simp
      · rw [if_neg h3,if_neg (by omega)]; simp
  · rw [Zae h1]
    simp
theorem Ahq {w:Ai} {r:List Int} (he:AP w=0) {k:Nat} (hg:L4 w r 0):HA (N0 w r k) w.duties.length 0=AaP w r k 7:=by
 have hu:∀ d:Nat,∀ i j,i<j→Fz w r (k:Int) (d:Int) i=true→j<w.duties.length→Fz w r (k:Int) (d:Int) j=false:=fun d i j hij hi hj=>by
  cases hb:Fz w r (k:Int) (d:Int) j with
  | false=>rfl
  | true =>
   have hb':=hb
   unfold Fz at hb'
   rw [Zan,decide_eq_true_eq,decide_eq_true_eq] at hb'
   have:=(hg j hj (by omega) k hb'.1).1 i hij
   rw [hb'.2,show((d:Int)).toNat=d from rfl,hi] at this
   cases this
 have hday:∀ d:Nat,HA (Aff w r k d) w.duties.length 0=AaP w r k d:=by
  intro d
  induction d with
  | zero=>exact PQ _ _
  | succ d ih =>
   show HA (fun i=>Aff w r k d i+_) _ _=AaP w r k d+_
   rw [Y7,ih]
   congr 1
   have e:HA (fun i=>bif Fz w r (k:Int) (d:Int) i then(Ay w i).off.hi-(Ay w i).on else 0) w.duties.length 0=HA (fun i=>bif (Fz w r (k:Int) (d:Int) i && decide (i<w.duties.length)) then(Ay w i).off.hi-(Ay w i).on else 0) w.duties.length 0:=Ku fun i _ hi=>by
    rw [Zaf (show i<w.duties.length by omega),Zb1]
   rw [e,Y8 (P:=fun i=>Fz w r (k:Int) (d:Int) i && decide (i<w.duties.length)) (x:=fun i=>(Ay w i).off.hi-(Ay w i).on) fun i j hij hi=>by
    rw [Zan] at hi
    by_cases hj:j<w.duties.length
    · rw [hu d i j hij hi.1 hj]; rfl
    · rw [Zae hj,Zbm]]
   have ef:BT (fun i=>Fz w r (k:Int) (d:Int) i && decide (i<w.duties.length)) w.duties.length 0=BT (Fz w r (k:Int) (d:Int)) w.duties.length 0:=by
    cases hf:BT (Fz w r (k:Int) (d:Int)) w.duties.length 0 with
    | none=>exact F6.2 fun j h1 h2=>by rw [F6.1 hf j h1 h2]; rfl
    | some j =>
     obtain⟨a,b,c,q⟩:=F7 hf
     exact RN a b (by rw [c,Zaf (show j<w.duties.length by omega)]; rfl) fun i h1 h2=>by rw [q i h1 h2]; rfl
   rw [ef]
 rw [← hday 7]
 refine Ku fun i _ hi=>?_
 obtain⟨q0,q6,_⟩:=BO (BX he (show i<w.duties.length by omega))
 rw [Y9 r k q0 7,if_pos (by omega)]
theorem Adu {w:Ai} {r:List Int} (hw:wkOk w) (he:AP w=0) (hro:Dr w r):Eu w r=[]↔(∀ j,j<w.duties.length→∀ k:Nat,r.getD j (-1)=(k:Int)→Ahp w r k j)∧∀ k,k<w.drivers.length→¬ HA (N0 w r k) w.duties.length 0>w.hours:=by
 rw [Adt hro he,← Afe hw he hro]
 have hkey:L4 w r 0→∀ k,k<w.drivers.length→(OE w r k 7).used=HA (N0 w r k) w.duties.length 0:=fun hg k hk=>by
  rw [Ahq he hg]
  exact(SB hw he hk 7 (Zas _) fun j hj _ q hq=>hg j hj (by have:=(BO (BX he hj)).1; omega) q hq).used
 constructor
 · rintro⟨p,q⟩
   exact⟨p,fun k hk=>by rw [← hkey p k hk]; exact q k hk⟩
 · rintro⟨p,q⟩
   exact⟨p,fun k hk=>by rw [hkey p k hk]; exact q k hk⟩
theorem AaQ (n:Nat) (lo hi:Int):Cf (n+1) [] lo hi=some (true,()):=rfl
theorem AaR (n:Nat) (k lo hi:Int):Cf (n+2) [k] lo hi=some (BF k lo hi,()):=by
 unfold Cf
 rw [show E9 (n+2) [k] lo hi 0=((AK (n+1) k lo hi).bind fun v1=>bif !!v1.fst then(some (.inl ())) else some (.inr (false,()))) from rfl,OC]
 cases BF k lo hi <;> rfl
theorem SD {n:Nat} {w:Ai} (hw:wkOk w) (hn:30<n):E3 n w=some (AP w,()):=by
 obtain⟨h1,h2,h3,h4,h5,h6,h7⟩:=hw
 unfold E3 AP
 by_cases h12:12<w.duties.length
 · rw [show decide ((w.duties.length:Int)>12)=true from Zaf (by omega),if_pos h12]; rfl
 · rw [show decide ((w.duties.length:Int)>12)=false from Zae (by omega),if_neg h12]
   by_cases hd6:6<w.drivers.length
   · rw [show decide ((w.drivers.length:Int)>6)=true from Zaf (by omega),if_pos hd6]; rfl
   · rw [show decide ((w.drivers.length:Int)>6)=false from Zae (by omega),if_neg hd6]
     simp only [OC,h1,h2,h3,h4,Za7,Zab,Zad,Zaa]
     obtain⟨s1,s2⟩:=Et (F:=fun n i=>Dp n w i) (G:=fun n i v0=>(AK n v0.day 0 (IntKind.i64.wrap (w.days-1))).bind fun v1=>bif !!v1.fst then((AK n v0.on 0 1439).bind fun v2=>bif !!v2.fst then((AK n v0.off.lo v0.on v0.off.hi).bind fun v3=>bif !!v3.fst then(bif !decide (v0.off.hi>IntKind.i64.wrap (v0.on+1440)) then((AK n v0.route 0 15).bind fun v4=>bif !v4.fst then(some (.inr (w,(1,())))) else Dp n w (IntKind.i64.wrap (i+1))) else some (.inr (w,(1,())))) else some (.inr (w,(1,())))) else some (.inr (w,(1,())))) else some (.inr (w,(1,())))) w.duties G5 (w,((),())) (fun _=>(w,(1,()))) 0 (by omega) (fun _ _=>rfl) (fun n i hi _=>by
      generalize w.duties[i]=d
      rw [h1,show IntKind.i64.wrap (7-1)=6 from rfl]
      unfold G5
      simp only [OC,Zaa]
      cases hb1:BF d.day 0 6 with
      | false=>rfl
      | true =>
       cases hb2:BF d.on 0 1439 with
       | false=>rfl
       | true =>
        have:=Bx.1 hb2
        rw [BG (x:=d.on+1440) (by omega) (by omega)]
        have hlo:BF d.off.lo d.on d.off.hi=(decide (d.on≤d.off.lo) && decide (d.off.lo≤d.off.hi)):=rfl
        rw [hlo]
        have hhi:decide (d.off.hi>d.on+1440)=!decide (d.off.hi≤d.on+1440):=by
         rw [Bool.eq_iff_iff]; simp
        rw [hhi]
        cases decide (d.on≤d.off.lo) <;> cases decide (d.off.lo≤d.off.hi) <;> cases decide (d.off.hi≤d.on+1440) <;> cases BF d.route 0 15 <;> rfl) (n:=n) (by omega)
     obtain⟨t1,t2⟩:=Et (F:=fun n i=>EF n w i) (G:=fun n i v0=>(Cf n v0.knows 0 15).bind fun v1=>bif !!v1.fst then((Cf n v0.leave 0 (IntKind.i64.wrap (w.days-1))).bind fun v2=>bif !!v2.fst then((Cf n v0.wish 0 (IntKind.i64.wrap (w.days-1))).bind fun v3=>bif !!v3.fst then((AK n v0.off (-10080) 1440).bind fun v4=>bif !!v4.fst then((AK n v0.row 0 14).bind fun v5=>bif !!v5.fst then((AK n v0.used 0 w.hours).bind fun v6=>bif !v6.fst then(some (.inr (w,(1,())))) else EF n w (IntKind.i64.wrap (i+1))) else some (.inr (w,(1,())))) else some (.inr (w,(1,())))) else some (.inr (w,(1,())))) else some (.inr (w,(1,())))) else some (.inr (w,(1,())))) w.drivers Nt (w,()) (fun _=>(w,(1,()))) 2 (by omega) (fun _ _=>rfl) (fun n i hi hn2=>by
      obtain⟨x,off,e⟩:=h7 _ (Zav hi)
      obtain⟨m,rfl⟩:∃ m,n=m+2:=⟨n-2,by omega⟩
      rw [e,h4]
      unfold Nt
      simp only [AaR,AaQ,OC,Zaa]
      simp only [ZaP,List.all_nil,Zb1]
      cases BF x 0 15 <;> cases BF off (-10080) 1440 <;> rfl) (n:=n) (by omega)
     show(Dp n w 0).bind _=_
     cases ha:w.duties.all G5 with
     | false =>
      obtain⟨k,hk⟩:=s2 ha
      rw [hk]; rfl
     | true =>
      rw [s1 ha,Zaa]
      simp only [Za3]
      cases hb:w.drivers.all Nt with
      | false =>
       obtain⟨k,hk⟩:=t2 hb
       rw [hk]; rfl
      | true=>rw [t1 hb]; rfl
section
variable {w:Ai} {r:List Int}
theorem Afg {i:Nat} (h:i<r.length):r[i]=r.getD i (-1):=by simp [List.getD,Zap h]
theorem YA (hro:Dr w r) (hl:w.duties.length≤1000) (k d:Int):∀ (n i:Nat),w.duties.length-i<n→i≤w.duties.length→Dm n r k d w (i:Int)=some (match BT (Fz w r k d) (w.duties.length-i) i with | some j=>.inr (w,((j:Int),())) | none=>.inl (w,()))
 | 0,_,h,_=>absurd h (Zal _)
 | n+1,i,h,hi=>by
  rw [Dm]
  by_cases hx:i<w.duties.length
  · have hxr:i<r.length:=by rw [hro.1]; exact hx
    have ih:=YA hro hl k d n (i+1) (by omega) (by omega)
    obtain⟨m,hm⟩:∃ m,w.duties.length-i=m+1:=⟨w.duties.length-i-1,by omega⟩
    rw [show w.duties.length-(i+1)=m by omega] at ih
    rw [show decide ((i:Int)<(w.duties.length:Int))=true by simp; omega,Zab,AO hxr,Zaa,AO hx,wN i (by omega),hm,ih,Afg hxr,← I7 hx]
    have e1:BT (Fz w r k d) (m+1) i=bif Fz w r k d i then some i else BT (Fz w r k d) m (i+1):=rfl
    have e2:Fz w r k d i=(decide (r.getD i (-1)=k) && decide ((Ay w i).day=d)):=rfl
    rw [e1,e2]
    cases decide (r.getD i (-1)=k) with
    | false=>rfl
    | true =>
     cases hdd:decide ((Ay w i).day=d) with
     | false=>simp only [Zab,Zaa,hdd,Zad,Zbm]
     | true=>simp only [Zab,Zaa,hdd,Zb0]
  · rw [show decide ((i:Int)<(w.duties.length:Int))=false by simp; omega,show w.duties.length-i=0 by omega]; rfl
def Ahr:Option Nat→Int
 | some j=>(j:Int)
 | none=>-1
theorem L6 {n:Nat} (hro:Dr w r) (hl:w.duties.length≤20) (k d:Int) (hn:20<n):Cg n w r k d=some (Ahr (BT (Fz w r k d) w.duties.length 0),()):=by
 unfold Cg
 have h:=YA hro (by omega) k d n 0 (by omega) (by omega)
 rw [show((0:Nat):Int)=0 from rfl,Nat.sub_zero] at h
 rw [h]
 cases BT (Fz w r k d) w.duties.length 0 <;> rfl
theorem Ahs (n:Nat) (x c:Int):H5 (n+2) [x] c=some (decide (x=c),()):=by
 unfold H5
 rw [show H9 (n+2) [x] c 0=(bif decide (x=c) then(some (.inr (true,()))) else some (.inl ())) from rfl]
 cases decide (x=c) <;> rfl
theorem Aht (n:Nat) (c:Int):H5 (n+1) [] c=some (false,()):=rfl
abbrev Kv (w:Ai):List Int:=w.duties.map fun d=>d.off.hi
theorem Aci (hro:Dr w r) (hw:wkOk w) (he:AP w=0) {k:Nat} (hk:k<w.drivers.length):∀ (d n:Nat),d≤7→30+d<n→((Ei n r (Kv w) (k:Int) w ((d:Int)-1)).bind fun v0=>Sum.elim (fun v1=>(Ao v1.fst.drivers v1.snd.fst).bind fun v2=>some (v2.off,())) (fun v1=>some (v1.snd.fst,())) (v0))=some (L5 w r k d,())
 | _,0,_,h=>absurd h (Zal _)
 | 0,n+1,hd,h=>by
  obtain⟨x,off,e1,e2⟩:=S9 hw hk
  rw [Ei,show decide ((((0:Nat):Int)-1)≥0)=false from rfl,Zad,Zaa]
  simp only [Za3]
  rw [AO hk,Zaa,e1]
  show _=some (((AI w).getD k Ie).free,())
  rw [e2]
 | d+1,n+1,hd,h=>by
  have h12:=(Bs he).1
  have ih:=Aci hro hw he hk d n (by omega) (by omega)
  rw [Ei,show((d+1:Nat):Int)-1=(d:Int) by omega,Zaf (show(d:Int)≥0 by omega),Zab]
  show _=some ((match BT (Fz w r (k:Int) (d:Int)) w.duties.length 0 with | some i=>1440*(d:Int)+(Ay w i).off.hi | none=>L5 w r k d),())
  cases hf:BT (Fz w r (k:Int) (d:Int)) w.duties.length 0 with
  | none =>
   rw [show Cg n w r (k:Int) (d:Int)=some (-1,()) from(L6 hro (by omega) _ _ (by omega)).trans (by rw [hf]; rfl),Zaa]
   simp only
   rw [show decide ((-1:Int)≥0)=false from rfl,Zad,BG (by omega) (by omega)]
   exact ih
  | some j =>
   obtain⟨_,hj,_,_⟩:=F7 hf
   rw [Zaw] at hj
   have hjl:j<(Kv w).length:=by simp; exact hj
   obtain⟨q0,q1,q2,q3,q4,q5,q6⟩:=BO (BX he hj)
   rw [show Cg n w r (k:Int) (d:Int)=some ((j:Int),()) from(L6 hro (by omega) _ _ (by omega)).trans (by rw [hf]; rfl),Zaa]
   simp only
   rw [Zaf (show(j:Int)≥0 by omega),Zab,AO hjl,Zaa,Zaa]
   simp only [Sum.elim_inr]
   have e:(Kv w)[j]=(Ay w j).off.hi:=by rw [I7 hj]; simp
   rw [e,BG (x:=1440*(d:Int)) (by omega) (by omega),BG (by omega) (by omega)]
theorem Ahu {n:Nat} (hro:Dr w r) (hw:wkOk w) (he:AP w=0) {k:Nat} (hk:k<w.drivers.length) {d:Nat} (hd:d≤7) (hn:40<n):Ju n w r (Kv w) (k:Int) (d:Int)=some (L5 w r k d,()):=by
 unfold Ju
 rw [BG (x:=(d:Int)-1) (by omega) (by omega)]
 exact Aci hro hw he hk d n hd (by omega)
theorem YB (hro:Dr w r) (hw:wkOk w) (he:AP w=0) {k:Nat} (hk:k<w.drivers.length):∀ (d n c:Nat),d≤7→30+d<n→c+d≤100→((Dn n r (k:Int) ((d:Int)-1) w (c:Int)).bind fun v0=>bif decide (v0.snd.snd.fst<0) then((Ao v0.fst.drivers v0.snd.fst).bind fun v1=>some (IntKind.i64.wrap (v0.snd.snd.snd.snd.fst+v1.row),())) else some (v0.snd.snd.snd.snd.fst,()))=some (((c+Lk w r k d:Nat):Int),())
 | _,0,_,_,h,_=>absurd h (Zal _)
 | 0,n+1,c,hd,h,hc=>by
  obtain⟨x,off,e1,e2⟩:=S9 hw hk
  rw [Dn,show decide ((((0:Nat):Int)-1)≥0)=false from rfl,Zad,Zaa]
  simp only
  rw [show decide ((((0:Nat):Int)-1)<0)=true from rfl,Zab,AO hk,Zaa,e1]
  simp only
  rw [BG (by omega) (by omega)]
  show some ((c:Int)+0,())=some (((c+0:Nat):Int),())
  rw [Int.add_zero,Nat.add_zero]
 | d+1,n+1,c,hd,h,hc=>by
  have h12:=(Bs he).1
  rw [Dn,show((d+1:Nat):Int)-1=(d:Int) by omega,Zaf (show(d:Int)≥0 by omega),Zab]
  show _=some (((c+(match BT (Fz w r (k:Int) (d:Int)) w.duties.length 0 with | some _=>Lk w r k d+1 | none=>0):Nat):Int),())
  cases hf:BT (Fz w r (k:Int) (d:Int)) w.duties.length 0 with
  | none =>
   rw [show Cg n w r (k:Int) (d:Int)=some (-1,()) from(L6 hro (by omega) _ _ (by omega)).trans (by rw [hf]; rfl),Zaa]
   simp only
   rw [show decide ((-1:Int)≥0)=false from rfl,Zad,Zaa]
   simp only
   rw [Zae (show ¬ (d:Int)<0 by omega),Zad,Nat.add_zero]
  | some j =>
   rw [show Cg n w r (k:Int) (d:Int)=some ((j:Int),()) from(L6 hro (by omega) _ _ (by omega)).trans (by rw [hf]; rfl),Zaa]
   simp only
   rw [Zaf (show(j:Int)≥0 by omega),Zab,BG (x:=(d:Int)-1) (by omega) (by omega),wN c (by omega)]
   rw [YB hro hw he hk d n (c+1) (by omega) (by omega) (by omega),show c+1+Lk w r k d=c+(Lk w r k d+1) by omega]
end
section
variable {w:Ai} {r:List Int}
theorem Afh {n:Nat} (hro:Dr w r) (hw:wkOk w) (he:AP w=0) {k:Nat} (hk:k<w.drivers.length) {d:Nat} (hd:d≤6) (hn:50<n):Ir n w r (k:Int) (d:Int)=some ((Lk w r k (d+1):Int),()):=by
 unfold Ir
 have h:=YB hro hw he hk (d+1) n 0 (by omega) (by omega) (by omega)
 rw [show((d+1:Nat):Int)-1=(d:Int) by omega,show((0:Nat):Int)=0 from rfl,Zaw] at h
 exact h
def Ail (w:Ai) (r:List Int) (c k j:Nat):Bool:=decide (r.getD j (-1)=(k:Int)) && match c with
 | 0=>!Ff w (k:Int) (Ay w j) Ie 0
 | 1=>false
 | 2=>!decide (BT (Fz w r (k:Int) (Ay w j).day) w.duties.length 0=some j)
 | 3=>decide (BT (Fz w r (k:Int) (Ay w j).day) w.duties.length 0=some j) && decide ((Ay w j).day*1440+(Ay w j).on-L5 w r k (Ay w j).day.toNat<600)
 | _=>decide (BT (Fz w r (k:Int) (Ay w j).day) w.duties.length 0=some j) && decide (Lk w r k ((Ay w j).day.toNat+1)>5)
theorem SE (he:AP w=0) (hw:wkOk w) {k:Nat} (hk:k<w.drivers.length):∀ d:Nat,d≤7→-20000≤L5 w r k d∧L5 w r k d≤20000
 | 0,_=>by
  have:=AaD hw he k
  show -20000≤((AI w).getD k Ie).free∧((AI w).getD k Ie).free≤20000
  exact this.2.2.2.2.2.2
 | d+1,hd=>by
  have ih:=SE he hw hk d (by omega)
  show -20000≤(match BT (Fz w r (k:Int) (d:Int)) w.duties.length 0 with | some i=>1440*(d:Int)+(Ay w i).off.hi | none=>L5 w r k d)∧(match BT (Fz w r (k:Int) (d:Int)) w.duties.length 0 with | some i=>1440*(d:Int)+(Ay w i).off.hi | none=>L5 w r k d)≤20000
  cases hf:BT (Fz w r (k:Int) (d:Int)) w.duties.length 0 with
  | none=>exact ih
  | some i =>
   obtain⟨_,hi,_,_⟩:=F7 hf
   obtain⟨q0,q1,q2,q3,q4,q5,q6⟩:=BO (BX he (show i<w.duties.length by omega))
   simp only
   omega
theorem Afi (o:Option Nat) (j:Nat):decide (Ahr o=(j:Int))=decide (o=some j):=by
 cases o with
 | none=>rfl
 | some i =>
  by_cases e:i=j
  · subst e; simp [Ahr]
  · rw [Zae (show ¬ Ahr (some i)=(j:Int) by show ¬ (i:Int)=(j:Int); omega),Zae (by simpa using e)]
theorem Adv {n:Nat} (hro:Dr w r) (hw:wkOk w) (he:AP w=0) {c k j:Nat} (hc:c<5) (hk:k<w.drivers.length) (hj:j<w.duties.length) (hn:60<n):DH n w r (Kv w) (IK.mk (c:Int)) (k:Int) (j:Int)=some (Ail w r c k j,()):=by
 have h12:=(Bs he).1
 have hjr:j<r.length:=by rw [hro.1]; exact hj
 obtain⟨x,off,e1,e2⟩:=S9 hw hk
 obtain⟨q0,q1,q2,q3,q4,q5,q6⟩:=BO (BX he hj)
 obtain⟨d,hd⟩:∃ d:Nat,(Ay w j).day=d:=⟨(Ay w j).day.toNat,by omega⟩
 unfold DH Ail
 rw [Zae (show ¬ (IK.mk (c:Int):IK .u8).n=5 by show ¬ (c:Int)=5; omega),Zad,AO hjr,Zaa,Afg hjr]
 by_cases hr:r.getD j (-1)=(k:Int)
 · rw [show(r.getD j (-1) != (k:Int))=false by rw [hr]; simp,Zad,AO hj,Zaa,AO hk,Zaa,← I7 hj,L6 hro (by omega) _ _ (by omega),Zaa,Zaf hr,ZaF]
   simp only
   rw [Afi]
   obtain⟨m,rfl⟩:∃ m,n=m+2:=⟨n-2,by omega⟩
   rw [e1]
   simp only
   rw [Ahs,Aht,hd,Ahu hro hw he hk (show d≤7 by omega) (by omega),Afh hro hw he hk (show d≤6 by omega) (by omega),show((d:Int)).toNat=d from rfl]
   have hfb:=SE (r:=r) he hw hk d (by omega)
   have hru:Ff w (k:Int) (Ay w j) Ie 0=decide (x=(Ay w j).route):=by
    show(match Ao w.drivers (k:Int) with | some v=>v.knows.any fun x=>decide ((Ay w j).route=x) | none=>true)=_
    rw [AO hk,e1]
    simp only [Zbx,List.any_nil,Bool.or_false]
    rw [Bool.eq_iff_iff]
    simp only [decide_eq_true_eq]
    exact⟨fun h=>h.symm,fun h=>h.symm⟩
   rcases c with _ | _ | _ | _ | _ | c
   · rw [hru]; rfl
   · rfl
   · rfl
   · simp only [Zaa]
     rw [BG (x:=1440*(d:Int)) (by omega) (by omega),BG (x:=1440*(d:Int)+(Ay w j).on) (by omega) (by omega),BG (by omega) (by omega),hw.2.1,show 1440*(d:Int)+(Ay w j).on-L5 w r k d=(d:Int)*1440+(Ay w j).on-L5 w r k d by omega]
     show(bif decide (BT (Fz w r (k:Int) (d:Int)) w.duties.length 0=some j) then some (decide ((d:Int)*1440+(Ay w j).on-L5 w r k d<600),()) else some (false,()))=_
     cases decide (BT (Fz w r (k:Int) (d:Int)) w.duties.length 0=some j) <;> rfl
   · simp only [Zaa]
     rw [hw.2.2.1]
     have hro5:decide ((Lk w r k (d+1):Int)>5)=decide (Lk w r k (d+1)>5):=by
      rw [Bool.eq_iff_iff]
      simp only [decide_eq_true_eq]
      omega
     rw [hro5]
     show(bif decide (BT (Fz w r (k:Int) (d:Int)) w.duties.length 0=some j) then some (decide (Lk w r k (d+1)>5),()) else some (false,()))=_
     cases decide (BT (Fz w r (k:Int) (d:Int)) w.duties.length 0=some j) <;> rfl
   · omega
 · rw [show(r.getD j (-1) != (k:Int))=true by simpa using hr,Zae hr]; rfl
theorem AaS (hro:Dr w r) (he:AP w=0) (k:Nat):∀ (n i:Nat)(s:Int),w.duties.length-i<n→i≤w.duties.length→-100000≤s→s≤1440*(i:Int)→0≤s→CM n r (Kv w) (k:Int) w s (i:Int)=some (w,((),(s+HA (N0 w r k) (w.duties.length-i) i,())))
 | 0,_,_,h,_,_,_,_=>absurd h (Zal _)
 | n+1,i,s,h,hi,h0,h1,h2=>by
  have h12:=(Bs he).1
  rw [CM]
  by_cases hx:i<w.duties.length
  · have hxr:i<r.length:=by rw [hro.1]; exact hx
    have hxl:i<(Kv w).length:=by simpa using hx
    obtain⟨m,hm⟩:∃ m,w.duties.length-i=m+1:=⟨w.duties.length-i-1,by omega⟩
    obtain⟨q0,q1,q2,q3,q4,q5,q6⟩:=BO (BX he hx)
    have e:(Kv w)[i]=(Ay w i).off.hi:=by rw [I7 hx]; simp
    have es:HA (N0 w r k) (m+1) i=N0 w r k i+HA (N0 w r k) m (i+1):=rfl
    rw [show decide ((i:Int)<(w.duties.length:Int))=true by simp; omega,Zab,AO hxr,Zaa,AO hxl,Zaa,AO hx,Zaa,wN i (by omega),Afg hxr,← I7 hx,e,hm,es]
    unfold N0
    by_cases hr:r.getD i (-1)=(k:Int)
    · rw [Zaf hr,Zab,BG (x:=(Ay w i).off.hi-(Ay w i).on) (by omega) (by omega),BG (by omega) (by omega),AaS hro he k n (i+1) _ (by omega) (by omega) (by omega) (by omega) (by omega),show w.duties.length-(i+1)=m by omega]
      simp only [Zab]
      unfold N0
      rw [Int.add_assoc]
    · rw [Zae hr,Zad,AaS hro he k n (i+1) _ (by omega) (by omega) (by omega) (by omega) (by omega),show w.duties.length-(i+1)=m by omega]
      simp only [Zad]
      unfold N0
      rw [Zbv]
  · rw [show decide ((i:Int)<(w.duties.length:Int))=false by simp; omega,show w.duties.length-i=0 by omega]
    show some (w,((),(s,())))=some (w,((),(s+0,())))
    rw [Int.add_zero]
theorem AaT {n:Nat} (hro:Dr w r) (hw:wkOk w) (he:AP w=0) {k:Nat} (hk:k<w.drivers.length) (hn:60<n):DH n w r (Kv w) (IK.mk 5) (k:Int) 0=some (decide (HA (N0 w r k) w.duties.length 0>w.hours),()):=by
 have h12:=(Bs he).1
 obtain⟨x,off,e1,e2⟩:=S9 hw hk
 unfold DH
 rw [show decide ((IK.mk 5:IK .u8).n=5)=true from rfl,Zab,AO hk,Zaa,e1]
 simp only
 have h:=AaS hro he k n 0 0 (by omega) (by omega) (by omega) (by omega) (by omega)
 rw [show((0:Nat):Int)=0 from rfl,Nat.sub_zero,Zbv] at h
 rw [h,Zaa]
theorem PS (hro:Dr w r) (hw:wkOk w) (he:AP w=0) {c k:Nat} (hc:c<5) (hk:k<w.drivers.length):∀ (n j:Nat)(out:List Ah),70+(w.duties.length-j)<n→j≤w.duties.length→out.length+(w.duties.length-j)≤10000→∃ e,CN n r (Kv w) w out (k:Int) (IK.mk (c:Int)) (j:Int)=some (w,(r,(Kv w,((),(out++e,((k:Int),(IK.mk (c:Int),())))))))∧(e=[]↔∀ i,j≤i→i<w.duties.length→Ail w r c k i=false)∧e.length≤w.duties.length-j
 | 0,_,_,h,_,_=>absurd h (Zal _)
 | n+1,j,out,h,hj,ho=>by
  have h12:=(Bs he).1
  rw [CN]
  by_cases hx:j<w.duties.length
  · rw [show decide ((j:Int)<(w.duties.length:Int))=true by simp; omega,Zab,Adv hro hw he hc hk hx (by omega),Zaa,wN j (by omega)]
    simp only
    cases hb:Ail w r c k j with
    | false =>
     obtain⟨e,h1,h2,h3⟩:=PS hro hw he hc hk n (j+1) out (by omega) (by omega) (by omega)
     rw [Zad,h1]
     refine⟨e,rfl,h2.trans ⟨fun hh i q1 q2=>?_,fun hh i q1 q2=>hh i (by omega) q2⟩,by omega⟩
     by_cases hi:i=j
     · rw [hi]; exact hb
     · exact hh i (by omega) q2
    | true =>
     obtain⟨e,h1,h2,h3⟩:=PS hro hw he hc hk n (j+1) (out++[Ah.mk (IK.mk (c:Int)) (k:Int) (j:Int)]) (by omega) (by omega) (by simp; omega)
     rw [Zab,A1 (by simp; omega),Zaa,h1]
     refine⟨Ah.mk (IK.mk (c:Int)) (k:Int) (j:Int)::e,by simp,⟨fun hh=>by simp at hh,fun hh=>?_⟩,by simp; omega⟩
     rw [hh j (by omega) hx] at hb; cases hb
  · rw [show decide ((j:Int)<(w.duties.length:Int))=false by simp; omega]
    exact⟨[],by simp,⟨fun _ i q1 q2=>by omega,fun _=>rfl⟩,by simp⟩
theorem VD (hro:Dr w r) (hw:wkOk w) (he:AP w=0) {k:Nat} (hk:k<w.drivers.length):∀ (n c:Nat)(out:List Ah),90+(5-c)<n→c≤5→out.length≤8000+12*c→∃ e,Ej n r (Kv w) w out (k:Int) (IK.mk (c:Int))=some (w,(r,(Kv w,((),(out++e,((k:Int),()))))))∧(e=[]↔∀ c',c≤c'→c'<5→∀ i,i<w.duties.length→Ail w r c' k i=false)∧e.length≤(5-c)*12
 | 0,_,_,h,_,_=>absurd h (Zal _)
 | n+1,c,out,h,hc,ho=>by
  have h12:=(Bs he).1
  rw [Ej]
  by_cases hx:c<5
  · obtain⟨e,h1,h2,h3⟩:=PS hro hw he hx hk n 0 out (by omega) (by omega) (by omega)
    rw [show((0:Nat):Int)=0 from rfl] at h1
    have hw8:IntKind.u8.wrap ((c:Int)+1)=((c+1:Nat):Int):=by
     rcases c with _ | _ | _ | _ | _ | c
     · rfl
     · rfl
     · rfl
     · rfl
     · rfl
     · omega
    obtain⟨e',g1,g2,g3⟩:=VD hro hw he hk n (c+1) (out++e) (by omega) (by omega) (by simp; omega)
    rw [Zaf (show(IK.mk (c:Int):IK .u8).n<5 by show(c:Int)<5; omega),Zab,h1,Zaa]
    simp only
    rw [hw8,g1]
    refine⟨e++e',by simp,?_,by rw [Zaj]; omega⟩
    rw [Zbz,h2,g2]
    constructor
    · rintro⟨p,q⟩ c' a b i hi
      by_cases hcc:c' = c
      · rw [hcc]; exact p i (by omega) hi
      · exact q c' (by omega) b i hi
    · intro hh
      exact⟨fun i _ hi=>hh c (by omega) hx i hi,fun c' a b i hi=>hh c' (by omega) b i hi⟩
  · rw [Zae (show ¬ (IK.mk (c:Int):IK .u8).n<5 by show ¬ (c:Int)<5; omega)]
    exact⟨[],by simp,⟨fun _ c' a b=>by omega,fun _=>rfl⟩,by simp⟩
theorem PT (hro:Dr w r) (hw:wkOk w) (he:AP w=0):∀ (n k:Nat)(out:List Ah),110+(w.drivers.length-k)<n→k≤w.drivers.length→out.length≤61*k→∃ e,CO n r (Kv w) w out (k:Int)=some (w,(out++e,()))∧(e=[]↔∀ k',k≤k'→k'<w.drivers.length→(∀ c,c<5→∀ i,i<w.duties.length→Ail w r c k' i=false)∧¬ HA (N0 w r k') w.duties.length 0>w.hours)
 | 0,_,_,h,_,_=>absurd h (Zal _)
 | n+1,k,out,h,hk,ho=>by
  have h6:=(Bs he).2
  rw [CO]
  by_cases hx:k<w.drivers.length
  · obtain⟨e,h1,h2,h3⟩:=VD hro hw he hx n 0 out (by omega) (by omega) (by omega)
    rw [show((0:Nat):Int)=0 from rfl] at h1
    rw [show decide ((k:Int)<(w.drivers.length:Int))=true by simp; omega,Zab,h1,Zaa]
    simp only
    rw [AaT hro hw he hx (by omega),Zaa,wN k (by omega)]
    simp only
    by_cases hs:HA (N0 w r k) w.duties.length 0>w.hours
    · rw [Zaf hs,Zab,A1 (by simp; omega),Zaa]
      obtain⟨e',g1,g2⟩:=PT hro hw he n (k+1) (out++e++[Ah.mk (IK.mk 5) (k:Int) 0]) (by omega) (by omega) (by simp; omega)
      rw [g1]
      refine⟨e++[Ah.mk (IK.mk 5) (k:Int) 0]++e',by simp,⟨fun hh=>by simp at hh,fun hh=>absurd hs (hh k (by omega) hx).2⟩⟩
    · rw [Zae hs,Zad]
      obtain⟨e',g1,g2⟩:=PT hro hw he n (k+1) (out++e) (by omega) (by omega) (by simp; omega)
      rw [g1]
      refine⟨e++e',by simp,?_⟩
      rw [Zbz,h2,g2]
      constructor
      · rintro⟨p,q⟩ k' a b
        by_cases hkk:k' = k
        · rw [hkk]; exact⟨fun c hc i hi=>p c (by omega) hc i hi,hs⟩
        · exact q k' (by omega) b
      · intro hh
        exact⟨fun c _ hc i hi=>(hh k (by omega) hx).1 c hc i hi,fun k' a b=>hh k' (by omega) b⟩
  · rw [show decide ((k:Int)<(w.drivers.length:Int))=false by simp; omega]
    exact⟨[],by simp,⟨fun _ k' a b=>by omega,fun _=>rfl⟩⟩
theorem VE (w:Ai) (hl:w.duties.length≤1000):∀ (n i:Nat),w.duties.length-i<n→i≤w.duties.length→Eh n w ((Kv w).take i) (i:Int)=some (w,(Kv w,()))
 | 0,_,h,_=>absurd h (Zal _)
 | n+1,i,h,hi=>by
  rw [Eh]
  by_cases hx:i<w.duties.length
  · have hxl:i<(Kv w).length:=by simpa using hx
    rw [show decide ((i:Int)<(w.duties.length:Int))=true by simp; omega,Zab,AO hx,Zaa,A1 (by rw [ZaK]; simp; omega),Zaa,wN i (by omega)]
    have:(Kv w).take i++[w.duties[i].off.hi]=(Kv w).take (i+1):=by
     rw [ZaD hxl]; simp
    rw [this]
    exact VE w hl n (i+1) (by omega) (by omega)
  · rw [show decide ((i:Int)<(w.duties.length:Int))=false by simp; omega,Zbb (by simp; omega)]; rfl
theorem AaU {n:Nat} (hw:wkOk w) (he:AP w=0) (hro:Dr w r) (hn:200<n):Is n w r=some (decide (Eu w r=[]),()):=by
 have h12:=(Bs he).1
 have h6:=(Bs he).2
 unfold Is J8
 have hL:=VE w (by omega) n 0 (by omega) (by omega)
 rw [show((0:Nat):Int)=0 from rfl,List.take_zero] at hL
 rw [hL]
 simp only [Zaa]
 unfold J9
 obtain⟨e,h1,h2⟩:=PT hro hw he n 0 [] (by omega) (by omega) (by simp)
 rw [show((0:Nat):Int)=0 from rfl,Zax] at h1
 rw [h1]
 simp only [Zaa]
 have hiff:Eu w r=[]↔e=[]:=by
  rw [Adu hw he hro,h2]
  constructor
  · rintro⟨p,q⟩ k _ hk
    refine⟨fun c hc i hi=>?_,q k hk⟩
    unfold Ail
    by_cases hr:r.getD i (-1)=(k:Int)
    · obtain⟨a,b,s,t⟩:=p i hi k hr
      rw [Zaf hr,ZaF]
      rcases c with _ | _ | _ | _ | _ | c
      · show(!Ff w (k:Int) (Ay w i) Ie 0)=false
        rw [a]; rfl
      · rfl
      · show(!decide (_=some i))=false
        rw [Zaf b]; rfl
      · show(decide (_=some i) && decide ((Ay w i).day*1440+(Ay w i).on-L5 w r k (Ay w i).day.toNat<600))=false
        rw [Zae (show ¬ (Ay w i).day*1440+(Ay w i).on-L5 w r k (Ay w i).day.toNat<600 by omega),Zbm]
      · show(decide (_=some i) && decide (Lk w r k ((Ay w i).day.toNat+1)>5))=false
        rw [Zae (show ¬ Lk w r k ((Ay w i).day.toNat+1)>5 by omega),Zbm]
      · omega
    · rw [Zae hr,Bool.false_and]
  · intro hh
    refine⟨fun j hj k hr=>?_,fun k hk=>(hh k (by omega) hk).2⟩
    have hk:k<w.drivers.length:=by
     have:=O8 hro j
     omega
    have hb:=fun c hc=>(hh k (by omega) hk).1 c hc j hj
    unfold Ail at hb
    rw [Zaf hr] at hb
    simp only [ZaF] at hb
    have b0:=hb 0 (by omega)
    have b2:=hb 2 (by omega)
    have b3:=hb 3 (by omega)
    have b4:=hb 4 (by omega)
    simp only at b0 b2 b3 b4
    have c2:BT (Fz w r (k:Int) (Ay w j).day) w.duties.length 0=some j:=by simpa using b2
    rw [Zaf c2,ZaF,decide_eq_false_iff_not] at b3 b4
    exact⟨by simpa using b0,c2,by omega,by omega⟩
 congr 2
 rw [Bool.eq_iff_iff]
 simp only [decide_eq_true_eq]
 rw [hiff]
 constructor
 · intro h
   exact Zby.1 (by omega)
 · rintro rfl; rfl
end
theorem AaV {n:Nat} {s:Ae} (hg:Cs s) {a b:Int} (hn:100<n):Dc n s (B [100,114,105,118,101,114]) [a,b]=some ((PG s a b).1,((PG s a b).2,())):=by
 have h6:=hg.drivers
 have h12:=hg.duties
 have hw:wkOk (FX s.week a b):=⟨hg.days,hg.rest,hg.run,hg.hours,by show s.week.duties.length≤13; omega,by simp [FX]; omega,fun d hd=>by
  rcases Zao.1 hd with hd | hd
  · exact hg.drv d hd
  · rw [Zat.1 hd]; exact⟨a,b,rfl⟩⟩
 have hF:=SD (n:=n) hw (by omega)
 unfold Dc
 rw [show(B [100,114,105,118,101,114]).beq (B [100,114,105,118,101,114])=true by decide,Zab,A1 (by simp; omega),Zaa,Zax,show Ao [a,b] 0=some a from rfl,Zaa,show Ao [a,b] 1=some b from rfl,Zaa,A1 (by simp; omega),Zaa]
 change ((E3 n (FX s.week a b)).bind fun v4=>bif v4.fst != 0 then(some (s,(v4.fst,()))) else some (Ae.mk s.cards s.outs s.runs s.records (FX s.week a b) s.roster,(0,())))=_
 rw [hF,Zaa]
 unfold PG
 by_cases h0:AP (FX s.week a b)=0
 · rw [h0]; rfl
 · rw [show(AP (FX s.week a b) != 0)=true by simpa using h0,if_neg h0]; rfl
theorem Afj {n:Nat} {s:Ae} (hg:Cs s) {a b c d e:Int} (hn:100<n):Dc n s (B [100,117,116,121]) [a,b,c,d,e]=some ((PH s (AA.mk a b (Rg.mk c d) e)).1,((PH s (AA.mk a b (Rg.mk c d) e)).2,())):=by
 have h6:=hg.drivers
 have h12:=hg.duties
 have hr:=hg.ros
 have hw:wkOk (G8 s.week (AA.mk a b (Rg.mk c d) e)):=⟨hg.days,hg.rest,hg.run,hg.hours,by simp [G8]; omega,by show s.week.drivers.length≤7; omega,hg.drv⟩
 have hF:=SD (n:=n) hw (by omega)
 unfold Dc
 rw [show(B [100,117,116,121]).beq (B [100,114,105,118,101,114])=false by decide,Zad,show(B [100,117,116,121]).beq (B [100,117,116,121])=true by decide,Zab,A1 (by simp; omega),Zaa,Zax,show Ao [a,b,c,d,e] 0=some a from rfl,Zaa,show Ao [a,b,c,d,e] 1=some b from rfl,Zaa,show Ao [a,b,c,d,e] 2=some c from rfl,Zaa,show Ao [a,b,c,d,e] 3=some d from rfl,Zaa,show Ao [a,b,c,d,e] 4=some e from rfl,Zaa,A1 (by simp; omega),Zaa,A1 (by simp; omega),Zaa,Zax,A1 (by simp; omega),Zaa]
 change ((E3 n (G8 s.week (AA.mk a b (Rg.mk c d) e))).bind fun v9=>bif v9.fst != 0 then(some (s,(v9.fst,()))) else some (Ae.mk s.cards s.outs s.runs s.records (G8 s.week (AA.mk a b (Rg.mk c d) e)) (s.roster++[-1]),(0,())))=_
 rw [hF,Zaa]
 unfold PH
 by_cases h0:AP (G8 s.week (AA.mk a b (Rg.mk c d) e))=0
 · rw [h0]; rfl
 · rw [show(AP (G8 s.week (AA.mk a b (Rg.mk c d) e)) != 0)=true by simpa using h0,if_neg h0]; rfl
theorem Afk {n:Nat} {s:Ae} (hg:Cs s) (hl:I6 s) {a b:Int} (hn:300<n):Dc n s (B [103,105,118,101]) [a,b]=some ((PI s a b).1,((PI s a b).2,())):=by
 have h6:=hg.drivers
 have h12:=hg.duties
 have hr:=hg.ros
 unfold Dc
 rw [show(B [103,105,118,101]).beq (B [100,114,105,118,101,114])=false by decide,Zad,show(B [103,105,118,101]).beq (B [100,117,116,121])=false by decide,Zad,show Ao [a,b] 0=some a from rfl,show Ao [a,b] 1=some b from rfl]
 simp only [Zaa,OC]
 rw [BG (x:=(s.roster.length:Int)-1) (by omega) (by omega),BG (x:=(s.week.drivers.length:Int)-1) (by omega) (by omega)]
 unfold PI
 cases hb1:BF a 0 ((s.roster.length:Int)-1) with
 | false=>rfl
 | true =>
  cases hb2:BF b (-1) ((s.week.drivers.length:Int)-1) with
  | false=>rfl
  | true =>
   obtain⟨a1,a2⟩:=Bx.1 hb1
   obtain⟨b1,b2⟩:=Bx.1 hb2
   obtain⟨i,rfl⟩:∃ i:Nat,a=i:=⟨a.toNat,by omega⟩
   have hi:i<s.roster.length:=by omega
   unfold Mp
   simp only [ZaC,Za7,Zab,Zad,Zb0,if_true]
   rw [A1 (by simp; omega),Zaa,Zax,AO hi,Zaa,show((i:Nat):Int).toNat=i from rfl,W7 hi,Zaa,Zaa]
   obtain⟨p1,p2,_⟩:=Hp.1 hl
   have hro:Dr s.week (s.roster.set i b):=⟨by rw [List.length_set]; exact hr,fun x hx=>by
    rcases List.mem_or_eq_of_mem_set hx with hx | rfl
    · exact p2.2 x hx
    · exact⟨b1,by omega⟩⟩
   simp only
   rw [AaU hg.wkOk p1 hro (by omega),Zaa]
   have hp:G7 s.week (s.roster.set i b)=decide (Eu s.week (s.roster.set i b)=[]):=by
    unfold G7
    rw [Zaf p1,Sc.2 hro]; rfl
   rw [hp]
   cases decide (Eu s.week (s.roster.set i b)=[]) <;> rfl
theorem Adw {s:Ae} {f:Int} {l:List Int} (h0:(Bg s f l).2≠0):(Bg s f l).1=s:=by
 have hcard:∀ c,(DY s c).2≠0→(DY s c).1=s:=fun c h=>by
  unfold DY at h ⊢
  split
  · rfl
  · split
    · rename_i h1 h2; rw [if_neg h1,if_pos h2] at h; exact absurd rfl h
    · rfl
 have hrec:∀ c,(Hn s c).2≠0→(Hn s c).1=s:=fun c h=>by
  unfold Hn at h ⊢
  split
  · rfl
  · split
    · rename_i h1 h2; rw [if_neg h1,if_pos h2] at h; exact absurd rfl h
    · rfl
 have hin:∀ a b c,(Acb s a b c).2≠0→(Acb s a b c).1=s:=fun a b c h=>by
  unfold Acb at h ⊢
  cases hgo:L1 s.outs a with
  | none=>rfl
  | some k =>
   rw [hgo] at h
   simp only at h ⊢
   cases ho:s.outs[k]? with
   | none=>rfl
   | some o =>
    rw [ho] at h
    simp only at h ⊢
    by_cases hc:(BF b o.fr 1000000 && BF c 0 1000)=true
    · rw [if_pos hc] at h; exact absurd rfl h
    · rw [if_neg hc]
 have hout:∀ a b,(Nu s a b).2≠0→(Nu s a b).1=s:=fun a b h=>by
  unfold Nu at h ⊢
  by_cases c1:(BF a 0 99 && BF b 0 1000000)=true
  · rw [if_pos c1] at h ⊢
    by_cases c2:FW s.outs a<0
    · rw [if_pos c2] at h ⊢
      by_cases c3:QD s.runs a b=true
      · rw [if_pos c3] at h ⊢
        by_cases c4:(Cm s.cards a b).2=0
        · rw [if_pos c4] at h ⊢
          by_cases c5:(Cm s.cards a b).1=[]
          · rw [if_pos c5] at h; exact absurd rfl h
          · rw [if_neg c5]
        · rw [if_neg c4]
      · rw [if_neg c3]
    · rw [if_neg c2]
  · rw [if_neg c1]
 unfold Bg at h0 ⊢
 split at h0
 · by_cases q0:f=189
   · rw [if_pos q0] at h0 ⊢; exact hcard _ h0
   rw [if_neg q0] at h0 ⊢
   by_cases q0:f=190
   · rw [if_pos q0] at h0 ⊢; exact hcard _ h0
   rw [if_neg q0] at h0 ⊢
   by_cases q0:f=191
   · rw [if_pos q0] at h0 ⊢; exact hcard _ h0
   rw [if_neg q0] at h0 ⊢
   by_cases q0:f=192
   · rw [if_pos q0] at h0 ⊢; exact hcard _ h0
   rw [if_neg q0] at h0 ⊢
   by_cases q0:f=193
   · rw [if_pos q0] at h0 ⊢; exact hout _ _ h0
   rw [if_neg q0] at h0 ⊢
   by_cases q0:f=194
   · rw [if_pos q0] at h0 ⊢; exact hin _ _ _ h0
   rw [if_neg q0] at h0 ⊢
   by_cases q0:f=195
   · rw [if_pos q0] at h0 ⊢; exact hrec _ h0
   rw [if_neg q0] at h0 ⊢
   by_cases q0:f=196
   · rw [if_pos q0] at h0 ⊢; exact hrec _ h0
   rw [if_neg q0] at h0 ⊢
   by_cases q0:f=197
   · rw [if_pos q0] at h0 ⊢; exact hrec _ h0
   rw [if_neg q0] at h0 ⊢
   by_cases q0:f=198
   · rw [if_pos q0] at h0 ⊢
     unfold PG at h0 ⊢
     split
     · rename_i c; rw [if_pos c] at h0; exact absurd rfl h0
     · rfl
   rw [if_neg q0] at h0 ⊢
   by_cases q0:f=199
   · rw [if_pos q0] at h0 ⊢
     unfold PH at h0 ⊢
     split
     · rename_i c; rw [if_pos c] at h0; exact absurd rfl h0
     · rfl
   rw [if_neg q0] at h0 ⊢
   unfold PI at h0 ⊢
   split
   · rename_i c1
     rw [if_pos c1] at h0
     split
     · rename_i c2; rw [if_pos c2] at h0; exact absurd rfl h0
     · rfl
   · rfl
 · rfl
theorem Adx {s:Ae} {t:ByteArray} {f:Int} {l:List Int} (h:BC t=some (f,l)):BR s t=Bg s f l:=by
 unfold BR
 rw [h]
 simp only
 by_cases h0:(Bg s f l).2=0
 · rw [if_pos h0]
 · rw [if_neg h0]
   exact Prod.ext (Adw h0).symm rfl
theorem Afl {t:ByteArray} {f:Int} {l:List Int} (h:BC t=some (f,l)):Ace t=decide (f≤192):=by unfold Ace; rw [h]
theorem Afm {t:ByteArray} {f:Int} {l:List Int} (h:BC t=some (f,l)) (hf:f≤192):Yv t=KY f l:=by
 unfold Yv; rw [h]; simp only; rw [if_pos hf]
theorem Ahv {t:ByteArray} {f:Int} {l:List Int} (h:BC t=some (f,l)):OB t=(decide (195≤f) && decide (f≤197)):=by unfold OB; rw [h]
theorem Ahw {t:ByteArray} {f:Int} {l:List Int} (h:BC t=some (f,l)) (hf:195≤f∧f≤197):Y1 t=PN f l:=by
 unfold Y1; rw [h]; simp only; rw [if_pos hf]
structure Aj6 (s:Ae):Prop where
 good:Cs s
 recs:HW s.records
 law:I6 s
theorem AjS {vs:List Int} {m:Int} (h:(vs.length:Int)=m) (hm:m=2):∃ a b,vs=[a,b]:=by
 rcases vs with _ | ⟨a,_ | ⟨b,_ | ⟨c,d⟩⟩⟩ <;> first | exact⟨_,_,rfl⟩ | (simp at h; omega)
theorem Akk {vs:List Int} {m:Int} (h:(vs.length:Int)=m) (hm:m=3):∃ a b c,vs=[a,b,c]:=by
 rcases vs with _ | ⟨a,_ | ⟨b,_ | ⟨c,_ | ⟨d,e⟩⟩⟩⟩ <;> first | exact⟨_,_,_,rfl⟩ | (simp at h; omega)
theorem AjT {vs:List Int} {m:Int} (h:(vs.length:Int)=m) (hm:m=4):∃ a b c d,vs=[a,b,c,d]:=by
 rcases vs with _ | ⟨a,_ | ⟨b,_ | ⟨c,_ | ⟨d,_ | ⟨e,f⟩⟩⟩⟩⟩ <;> first | exact⟨_,_,_,_,rfl⟩ | (simp at h; omega)
theorem AjW {vs:List Int} {m:Int} (h:(vs.length:Int)=m) (hm:m=5):∃ a b c d e,vs=[a,b,c,d,e]:=by
 rcases vs with _ | ⟨a,_ | ⟨b,_ | ⟨c,_ | ⟨d,_ | ⟨e,_ | ⟨f,g⟩⟩⟩⟩⟩⟩ <;> first | exact⟨_,_,_,_,_,rfl⟩ | (simp at h; omega)
theorem Aj7 {n:Nat} {s:Ae} (hf:Aj6 s) {t:ByteArray} (ht:t.size≤1000) (hn:1400<n):RT n s t=some ((BR s t).1,((BR s t).2,())):=by
 have hg:=hf.good
 unfold RT
 rw [O5 (by omega) (by omega),Zaa,Ahl (by omega) (by omega),Adq (by omega) (by omega)]
 simp only [Zaa]
 rcases Vy t with⟨q1,q2⟩ | ⟨p,x,vs,q1,q2,q3,q4⟩
 · rw [q1]
   unfold BR
   rw [q2]; rfl
 · rw [q1,Adx q4,Afl q4,Ahv q4]
   simp only [Sn,ZaC,Zad]
   have hcards:∀ {f:Int} {l:List Int},BC t=some (f,l)→f≤192→G4 (KY f l)→Bg s f l=DY s (KY f l)→((Kj n s (Yv t)).bind fun v2=>some (v2.fst,(v2.snd.fst,())))=some ((Bg s f l).1,((Bg s f l).2,())):=fun {f l} e hff hk hw=>by
    rw [Afm e hff,hw,Afc hg hk (by omega)]; rfl
   have hrecs:∀ {f:Int} {l:List Int},BC t=some (f,l)→195≤f∧f≤197→Lz (PN f l)→Bg s f l=Hn s (PN f l)→((HH n s (Y1 t)).bind fun v2=>some (v2.fst,(v2.snd.fst,())))=some ((Bg s f l).1,((Bg s f l).2,())):=fun {f l} e hff hk hw=>by
    rw [Ahw e hff,hw,AaO hf.recs hg.rk hk (by omega)]; rfl
   have:=I4 Di (fun a b h=>(JK a b).1 h) _ _ _ q2
   simp only [C7,Zam,Prod.mk.injEq,Zbd,or_false] at this
   rcases this with⟨rfl,rfl⟩ | ⟨rfl,rfl⟩ | ⟨rfl,rfl⟩ | ⟨rfl,rfl⟩ | ⟨rfl,rfl⟩ | ⟨rfl,rfl⟩ | ⟨rfl,rfl⟩ | ⟨rfl,rfl⟩ | ⟨rfl,rfl⟩ | ⟨rfl,rfl⟩ | ⟨rfl,rfl⟩ | ⟨rfl,rfl⟩
   · obtain⟨a,b,c,d,rfl⟩:=AjT q3 rfl
     exact hcards q4 (by decide) ⟨by simp [KY],by simp [KY]⟩ rfl
   · obtain⟨a,b,c,d,rfl⟩:=AjT q3 rfl
     exact hcards q4 (by decide) ⟨by simp [KY],by simp [KY]⟩ rfl
   · obtain⟨a,b,c,d,rfl⟩:=AjT q3 rfl
     exact hcards q4 (by decide) ⟨by simp [KY],by simp [KY]⟩ rfl
   · obtain⟨a,b,c,rfl⟩:=Akk q3 rfl
     exact hcards q4 (by decide) ⟨by simp [KY],by simp [KY]⟩ rfl
   · obtain⟨a,b,rfl⟩:=AjS q3 rfl
     show((E4 n s (B [111,117,116]) [a,b]).bind fun v3=>some (v3.fst,(v3.snd.fst,())))=_
     rw [Aho hg (by omega)]; rfl
   · obtain⟨a,b,c,rfl⟩:=Akk q3 rfl
     show((E4 n s (B [105,110]) [a,b,c]).bind fun v3=>some (v3.fst,(v3.snd.fst,())))=_
     rw [AiG hg (by omega)]; rfl
   · obtain⟨a,b,c,d,e,rfl⟩:=AjW q3 rfl
     exact hrecs q4 (by decide) ⟨by simp [PN],by simp [PN]⟩ rfl
   · obtain⟨a,b,c,d,rfl⟩:=AjT q3 rfl
     exact hrecs q4 (by decide) ⟨by simp [PN],by simp [PN]⟩ rfl
   · obtain⟨a,b,c,d,e,rfl⟩:=AjW q3 rfl
     exact hrecs q4 (by decide) ⟨by simp [PN],by simp [PN]⟩ rfl
   · obtain⟨a,b,rfl⟩:=AjS q3 rfl
     show((Dc n s (B [100,114,105,118,101,114]) [a,b]).bind fun v3=>some (v3.fst,(v3.snd.fst,())))=_
     rw [AaV hg (by omega)]; rfl
   · obtain⟨a,b,c,d,e,rfl⟩:=AjW q3 rfl
     show((Dc n s (B [100,117,116,121]) [a,b,c,d,e]).bind fun v3=>some (v3.fst,(v3.snd.fst,())))=_
     rw [Afj hg (by omega)]; rfl
   · obtain⟨a,b,rfl⟩:=AjS q3 rfl
     show((Dc n s (B [103,105,118,101]) [a,b]).bind fun v3=>some (v3.fst,(v3.snd.fst,())))=_
     rw [Afk hg hf.law (by omega)]; rfl
def KZ (m:Nat) (s:Ae):Prop:=MP m s∧HW s.records∧I6 s
theorem KZ.fine {m:Nat} {s:Ae} (h:KZ m s):Aj6 s:=⟨h.1.1,h.2.1,h.2.2⟩
theorem KZ.step {m:Nat} {s:Ae} (h:KZ (m+1) s) (t:ByteArray):KZ m (BR s t).1:=⟨h.1.step t,Sy h.2.1 t,QJ h.1.1 h.2.2 t⟩
theorem KZ.less {m k:Nat} {s:Ae} (h:KZ m s) (hk:k≤m):KZ k s:=⟨h.1.less hk,h.2⟩
theorem AaW:KZ 150 Aq:=⟨Fh,Jd,O9⟩
theorem QN (full:List ByteArray) (hs:∀ t∈full,t.size≤1000) (hl:full.length≤150) (x2:Ae):∀ (n i:Nat)(s:Ae)(es:List Int),1500+(full.length-i)<n→i≤full.length→KZ (full.length-i) s→es.length=i→FG n full x2 s es (i:Int)=some (x2,((A9 s (full.drop i)).1,((),((),(es++(A9 s (full.drop i)).2,())))))
 | 0,_,_,_,h,_,_,_=>absurd h (Zal _)
 | n+1,i,s,es,h,hi,hL,he=>by
  rw [FG]
  by_cases hx:i<full.length
  · have hd:full.drop i=full[i]::full.drop (i+1):=Zai hx
    rw [show decide ((i:Int)<(full.length:Int))=true by simp; omega,Zab,AO hx,Zaa,Aj7 hL.fine (hs _ (Zav hx)) (by omega),Zaa]
    simp only
    rw [A1 (by simp; omega),Zaa,wN i (by omega)]
    have hL':KZ (full.length-(i+1)) (BR s full[i]).1:=KZ.step (by rw [show full.length-(i+1)+1=full.length-i by omega]; exact hL) _
    rw [QN full hs hl x2 n (i+1) _ _ (by omega) (by omega) hL' (by simp [he]),hd]
    simp [A9]
  · have hd:full.drop i=[]:=by simp; omega
    rw [show decide ((i:Int)<(full.length:Int))=false by simp; omega,hd]
    simp [A9]
theorem AaX {n:Nat} {lines:List ByteArray} (hs:∀ t∈lines,t.size≤1000) (hl:lines.length≤150) (hn:1700≤n):MN n lines=some ((A9 Aq lines).1,((A9 Aq lines).2,())):=by
 unfold MN NW
 have h:=QN lines hs hl (Ae.mk [] [] [] [] (Ai.mk 0 [] [] 0 0 0) []) n 0 Aq [] (by omega) (by omega) (AaW.less (by omega)) rfl
 rw [show((0:Nat):Int)=0 from rfl,Zar,Zax] at h
 show(FG n lines (Ae.mk [] [] [] [] (Ai.mk 0 [] [] 0 0 0) []) Aq [] 0).bind _=_
 rw [h]; rfl
theorem AiH {n:Nat} {lines:List ByteArray} (hbig:lines.length≤4000000000000000000) (hn:lines.length<n):∃ b,Ki n lines=some (b,())∧(b=true→lines.length≤52):=by
 by_cases h52:lines.length≤52
 · obtain⟨b,hb⟩:=AeT hbig hn
   exact⟨b,hb,fun _=>h52⟩
 · have H:∀ (n i:Nat)(z:Int),lines.length-i<n→i≤lines.length→∃ z',Fv n lines z (i:Int)=some (lines,(z',())):=by
    intro n
    induction n with
    | zero=>intro i z h; exact absurd h (Zal _)
    | succ n ih =>
     intro i z h hi
     rw [Fv]
     by_cases hx:i<lines.length
     · rw [show decide ((i:Int)<(lines.length:Int))=true by simp; omega,Zab,AO hx,Zaa,wN i (by omega)]
       exact ih (i+1) _ (by omega) (by omega)
     · rw [show decide ((i:Int)<(lines.length:Int))=false by simp; omega,Zad]
       exact⟨z,rfl⟩
   obtain⟨z,hz⟩:=H n 0 0 (by omega) (by omega)
   rw [show((0:Nat):Int)=0 from rfl] at hz
   refine⟨false,?_,fun h=>by cases h⟩
   unfold Ki
   rw [hz]
   simp only [Zaa]
   rw [Zae (show ¬ (lines.length:Int)≤30 by omega),Zae (show ¬ (lines.length:Int)≤52 by omega),Zae (show ¬ (lines.length:Int)=1 by omega)]
   rfl
theorem Acj:∀ (l:List ByteArray)(s:Ae)(i:Nat)(hi:i<l.length)(a b:Int)(r:List Int),(A9 s l).2[i]? = some 0→BC l[i]=some (193,a::b::r)→(BF a 0 99 && BF b 0 1000000)=true
 | t::l,s,0,hi,a,b,r,h0,hp=>by
  have h0':(BR s t).2=0:=by simpa [A9] using h0
  have hp':BC t=some (193,a::b::r):=by simpa using hp
  obtain⟨⟨f,l5⟩,hy,hw,_⟩:=JN h0'
  rw [hp'] at hy
  cases hy
  have hw2:(Nu s a b).2=0:=by
   unfold Bg at hw
   split at hw
   · rename_i h5; cases h5; exact hw
   · cases hw
  exact(Si hw2).1
 | t::l,s,i+1,hi,a,b,r,h0,hp=>Acj l (BR s t).1 i (by simpa using hi) a b r (by simpa [A9] using h0) (by simpa using hp)
theorem SF (full:List ByteArray) (hs:∀ t∈full,t.size≤1000) (hl:full.length≤1000) (errs:List Int) (s:Ae) (hg:Cs s) (hel:errs.length=full.length) (hb:∀ (i:Nat)(hi:i<full.length)(a b:Int)(r:List Int),errs[i]? = some 0→BC full[i]=some (193,a::b::r)→(BF a 0 99 && BF b 0 1000000)=true):∀ (n i:Nat)(out:List Int),1300+(full.length-i)<n→i≤full.length→out.length≤i→CD n full errs s out (i:Int)=some (s,(out++Hi s.cards (full.drop i) (errs.drop i) i,()))
 | 0,_,_,h,_,_=>absurd h (Zal _)
 | n+1,i,out,h,hi,ho=>by
  rw [CD]
  by_cases hx:i<full.length
  · have hd:full.drop i=full[i]::full.drop (i+1):=Zai hx
    have hxe:i<errs.length:=by omega
    have hde:errs.drop i=errs[i]::errs.drop (i+1):=Zai hxe
    have hsz:=hs _ (Zav hx)
    have ih:=fun out ho=>SF full hs hl errs s hg hel hb n (i+1) out (by omega) (by omega) ho
    rw [show decide ((i:Int)<(full.length:Int))=true by simp; omega,Zab,AO hx,Zaa,O5 (by omega) (by omega),Zaa,AO hxe,wN i (by omega),hd,hde]
    unfold Hi
    rcases Vy full[i] with⟨q1,q2⟩ | ⟨p,x,vs,q1,q2,q3,q4⟩
    · have hb:KX s.cards full[i]=false:=by unfold KX; rw [q2]
      rw [q1,hb,Zbm]
      exact ih out (by omega)
    · rw [q1]
      simp only [Sn,Zab]
      rcases Yp q2 with⟨rfl,hm,hff⟩ | ⟨hne,hff⟩
      · obtain⟨a,b,rfl⟩:=AjS q3 hm
        rw [hff] at q4
        have hbq:(B [111,117,116]).beq (B [111,117,116])=true:=by decide
        rw [hbq,Zab,Zaa]
        by_cases h0:errs[i]=0
        · have hbt:=hb i hx a b _ (by rw [Zap hxe,h0]) q4
          have hlb:KX s.cards full[i]=decide (((HO s.cards a b).length:Int)>0):=by
           have e:KX s.cards full[i]=decide ((((Cm s.cards a b).1.length:Nat):Int)>0):=by unfold KX; rw [q4]; rfl
           rw [e]
           have hn:=VB hg.chk hbt
           by_cases hz:(Cm s.cards a b).1=[]
           · rw [hz,hn.2 hz]
           · have hz2:HO s.cards a b≠[]:=fun h=>hz (hn.1 h)
             rw [Zaf (show(((Cm s.cards a b).1.length:Nat):Int)>0 by have:=List.length_pos_iff.2 hz; omega),Zaf (show(((HO s.cards a b).length:Nat):Int)>0 by have:=List.length_pos_iff.2 hz2; omega)]
          rw [hlb,Zaf h0,Zab,show Ao [a,b] 0=some a from rfl,Zaa,show Ao [a,b] 1=some b from rfl,Zaa,S5 hg.kind hg.cards (by omega),Zaa,ZaF]
          simp only
          cases decide (((HO s.cards a b).length:Int)>0) with
          | false=>simp only [Zad]; exact ih out (by omega)
          | true =>
           simp only [Zab]
           rw [A1 (by simp; omega),Zaa,ih _ (by simp; omega)]
           simp
        · rw [Zae h0,Zad,Bool.false_and,Zad]
          exact ih out (by omega)
      · have hb:KX s.cards full[i]=false:=by
         unfold KX
         rw [q4]
         rcases vs++List.replicate (5-vs.length) 0 with _ | ⟨a,_ | ⟨b,c⟩⟩
         · rfl
         · rfl
         · simp only
           rw [Zae hff,Bool.false_and]
        rw [Bh hne,hb,Zbm]
        exact ih out (by omega)
  · have hd:full.drop i=[]:=by simp; omega
    rw [show decide ((i:Int)<(full.length:Int))=false by simp; omega,hd]
    simp [Hi]
theorem AaY {n:Nat} {lines:List ByteArray} (hs:∀ t∈lines,t.size≤200) (hl:lines.length≤50) (hn:1400<n):ML n (A9 Aq lines).1 lines (A9 Aq lines).2=some (Hi (A9 Aq lines).1.cards lines (A9 Aq lines).2 0,()):=by
 have hgood:=(Ho lines 0 Aq (Fh.less (by omega))).1
 unfold ML
 have h:=SF lines (fun t ht=>ZaM (hs t ht) (by decide)) (by omega) (A9 Aq lines).2 (A9 Aq lines).1 hgood (M3 _ _) (fun i hi a b r h0 hp=>Acj lines Aq i hi a b r h0 hp) n 0 [] (by omega) (by omega) (by simp)
 rw [show((0:Nat):Int)=0 from rfl,Zar,Zar,Zax] at h
 rw [h]; rfl
theorem L7 (bus:Int) (s:Ae) (hr:∀ r∈s.runs,Yq r) (hl:s.runs.length≤1000):∀ (n i:Nat)(a c:Nat),s.runs.length-i<n→i≤s.runs.length→a≤1000*i→c≤i→EM n bus s (a:Int) (c:Int) (i:Int)=some (s,((a:Int)+GB (Du bus (s.runs.drop i)),((c:Int)+((Du bus (s.runs.drop i)).length:Int),())))
 | 0,_,_,_,h,_,_,_=>absurd h (Zal _)
 | n+1,i,a,c,h,hi,ha,hc=>by
  rw [EM]
  by_cases hx:i<s.runs.length
  · have hd:s.runs.drop i=s.runs[i]::s.runs.drop (i+1):=Zai hx
    obtain⟨_,_,m0,m1⟩:=hr _ (Zav hx)
    obtain⟨m,hm⟩:∃ m:Nat,s.runs[i].miles=m:=⟨s.runs[i].miles.toNat,by omega⟩
    rw [show decide ((i:Int)<(s.runs.length:Int))=true by simp; omega,Zab,AO hx,Zaa,Zaa,hd,wN i (by omega)]
    unfold Du
    by_cases hb:s.runs[i].bus=bus
    · rw [Zaf hb,Zab,hm,BG (x:=(a:Int)+(m:Int)) (by omega) (by omega),wN c (by omega),ZaZ (by simpa using hb)]
      have:=L7 bus s hr hl n (i+1) (a+m) (c+1) (by omega) (by omega) (by omega) (by omega)
      rw [show((a+m:Nat):Int)=(a:Int)+(m:Int) by omega] at this
      rw [this]
      unfold Du
      simp only [GB,Zau,hm]
      congr 3
      · omega
      · congr 1; omega
    · rw [Zae hb,Zad,ZaU (by simpa using hb)]
      exact L7 bus s hr hl n (i+1) a c (by omega) (by omega) (by omega) (by omega)
  · have hd:s.runs.drop i=[]:=by simp; omega
    rw [show decide ((i:Int)<(s.runs.length:Int))=false by simp; omega,hd]
    simp [Du,GB]
theorem YC {n:Nat} {s:Ae} (bus:Int) (hr:∀ r∈s.runs,Yq r) (hl:s.runs.length≤1000) (hn:s.runs.length<n):KV n s bus=some (GB (Du bus s.runs),(((Du bus s.runs).length:Int),())):=by
 unfold KV
 have h:=L7 bus s hr hl n 0 0 0 (by omega) (by omega) (by omega) (by omega)
 rw [show((0:Nat):Int)=0 from rfl,Zar,Zbv,Zbv] at h
 rw [h]; rfl
theorem OF:∀ k u,(KD k u).length≤k
 | 0,_=>by simp [KD]
 | k+1,u=>by
  unfold KD
  cases Nat.blt u 10 with
  | true=>simp
  | false=>have:=OF k (u / 10); simp; omega
theorem DZ (x:Int):(B0 x).data.toList.length≤30:=by
 unfold B0 Po
 cases x with
 | ofNat u=>have:=OF 20 u; simp [Ep]; omega
 | negSucc u=>have:=OF 20 (u+1); simp [Ep]; omega
theorem E6 {n:Nat} {x:Int} (h0 : -9223372036854775808≤x) (h1:x≤9223372036854775807):BV n x=some (B0 x,()):=by
 unfold BV
 rw [Zaf h0,Zaf h1]; rfl
theorem VF:∀ (l:List (List UInt8)),(∀ w∈l,w.length≤30)→(([32]:List UInt8).intercalate l).length≤31*l.length
 | [],_=>by simp [List.intercalate]
 | [x],h=>by have:=h x (by simp); simp [List.intercalate]; omega
 | x::y::r,h=>by
  have e:([32]:List UInt8).intercalate (x::y::r)=x++[32]++([32]:List UInt8).intercalate (y::r):=by simp [List.intercalate,List.intersperse]
  have h1:=h x (by simp)
  have h2:=VF (y::r) fun w hw=>h w (ZaR _ hw)
  rw [e]
  simp only [Zaj,Zau,ZaV] at h2 ⊢
  omega
theorem YD (n:Nat) {ws:List ByteArray} (h1:ws.length≤10) (h2:∀ w∈ws,w.data.toList.length≤30):FJ n ws (B [32])=some (EX ws (B [32]),())∧(EX ws (B [32])).data.toList.length≤310:=by
 have h:=VF (ws.map (·.data.toList)) (by intro w hw; obtain⟨a,ha,rfl⟩:=ZaY.1 hw; exact h2 a ha)
 rw [ZaO] at h
 have e:(EX ws (B [32])).data.toList=([32]:List UInt8).intercalate (ws.map (·.data.toList)):=by unfold EX Ep; rfl
 have hle:(EX ws (B [32])).data.toList.length≤310:=by rw [e]; omega
 refine⟨?_,hle⟩
 unfold FJ
 rw [JM,JM,Za2 (show ws.length≤100000 by omega),Za2 (show(EX ws (B [32])).data.toList.length≤100000 by omega)]
 rfl
def Fi (ws:List ByteArray):List UInt8:=(EX ws (B [32])).data.toList++[10]
theorem EG {ws:List ByteArray} (h1:ws.length≤10) (h2:∀ w∈ws,w.data.toList.length≤30):(Fi ws).length≤311:=by
 have:=(YD 0 h1 h2).2
 unfold Fi
 rw [Zaj]
 simp only [Zau,ZaV]
 omega
theorem Gu {n:Nat} {ws:List ByteArray} {out:List UInt8} {β:Type} {K:List (IK .u8)→Option β} (h1:ws.length≤10) (h2:∀ w∈ws,w.data.toList.length≤30) (ho:out.length≤1000000) :
  ((FJ n ws (B [32])).bind fun v7=>(An v7.fst (B [10])).bind fun v8=>(app (bL out) (HE v8)).bind K)=K (bL (out++Fi ws)):=by
 obtain⟨a,b⟩:=YD n h1 h2
 have e:An (EX ws (B [32])) (B [10])=some (Ep (Fi ws)):=by
  have:=My (a:=(EX ws (B [32])).data.toList) (b:=[10]) (by simp only [Zau,ZaV]; omega)
  rw [Gd] at this
  exact this
 have hl:=EG h1 h2
 rw [a,Zaa]
 simp only
 rw [e,Zaa,AgS,A1 (by rw [PE,PE]; omega),Zaa,Ai9]
theorem QO (b:Int) (full:List Ak) (hl:full.length≤1000):∀ (n i:Nat),full.length-i<n→i≤full.length→∃ k:Nat,B4 n full b (full.length:Int) (i:Int)=some (bif (full.drop i).any (fun c=>decide (c.bus=b)) then .inr ((b,()),((k:Int),())) else .inl ((b,()),()))
 | 0,_,h,_=>absurd h (Zal _)
 | n+1,i,h,hi=>by
  rw [B4]
  by_cases hx:i<full.length
  · have hd:full.drop i=full[i]::full.drop (i+1):=Zai hx
    rw [show decide ((i:Int)<(full.length:Int))=true by simp; omega,Zab,AO hx,Zaa,wN i (by omega),hd,Zbx]
    by_cases hb:full[i].bus=b
    · rw [Zaf hb,Zab,Bool.true_or]
      exact⟨i,rfl⟩
    · rw [Zae hb,Zad,Zbs]
      exact QO b full hl n (i+1) (by omega) (by omega)
  · have hd:full.drop i=[]:=by simp; omega
    rw [show decide ((i:Int)<(full.length:Int))=false by simp; omega,hd]
    exact⟨0,rfl⟩
theorem VG {n:Nat} {s:Ae} (hg:Cs s) (hm:HV s) (b:Int) (hn:300<n):Bd n (Ab.mk s) b=some (Ab.mk s,(GB (Du b s.runs),(((Du b s.runs).length:Int),()))):=by
 have hl:=hg.runs
 unfold Bd
 have h:=Ks b s.runs hm.runs (by omega) n 0 0 0 (by omega) (by omega) (by omega) (by omega)
 rw [show((0:Nat):Int)=0 from rfl,Zar] at h
 simp only
 rw [h,Zaa]
 simp
def L8 (s:Ae) (b:Int):Bool:=decide (0<(Du b s.runs).length) || (decide (FW s.outs b≥0) || s.cards.any fun c=>decide (c.bus=b))
theorem YE {n:Nat} {s:Ae} (hg:Cs s) (hm:HV s) (b:Int) (hn:1100<n):BW n (Ab.mk s) b=some (Ab.mk s,(L8 s b,())):=by
 unfold BW
 rw [VG hg hm b (by omega),Zaa]
 simp only
 by_cases h0:0<(Du b s.runs).length
 · rw [show decide ((((Du b s.runs).length:Nat):Int)>0)=true from Zaf (by omega)]
   unfold L8
   rw [Zaf h0]; rfl
 · rw [show decide ((((Du b s.runs).length:Nat):Int)>0)=false from Zae (by omega)]
   simp only [Za7,Zab]
   rw [RM hg b (by omega),Zaa]
   simp only
   unfold L8
   rw [Zae h0,Zbs]
   by_cases h1:FW s.outs b≥0
   · rw [Zaf h1]; rfl
   · rw [Zae h1]
     simp only [Za7,Zab,Zbs]
     have hc:=hg.cards
     obtain⟨k,hk⟩:=QO b s.cards (by omega) n 0 (by omega) (by omega)
     rw [show((0:Nat):Int)=0 from rfl,Zar] at hk
     rw [hk,Zaa]
     cases s.cards.any fun c=>decide (c.bus=b) with
     | true =>
      simp only [Zab,Sum.elim_inr]
      rw [Zaf (show((k:Nat):Int)≥0 by omega)]
     | false=>rfl
theorem VH (l:List Ak) (b a:Int):(Cm l b a).1.length≤40:=by
 unfold Cm
 split
 · simp
 · rename_i y hy
   split
   · have:=Vo hy
     unfold Ae7
     rw [ZaO]
     exact ZaM (Zbf _ _) this
   · simp
def QP (s:Ae) (b:Int):List ByteArray:=bif decide (FW s.outs b≥0) then [B [98,117,115],B0 b,B [109,105,108,101,115],B0 (GB (Du b s.runs)),B [111,112,101,110],B0 ((Cm s.cards b 1000000).1.length:Int),B [111,117,116]] else [B [98,117,115],B0 b,B [109,105,108,101,115],B0 (GB (Du b s.runs)),B [111,112,101,110],B0 ((Cm s.cards b 1000000).1.length:Int)]
theorem SG (s:Ae) (b:Int):(QP s b).length≤10∧∀ w∈QP s b,w.data.toList.length≤30:=by
 unfold QP
 cases decide (FW s.outs b≥0) with
 | true =>
  refine⟨by simp,fun w hw=>?_⟩
  simp only [Zab,Zam,Zbd,or_false] at hw
  rcases hw with rfl | rfl | rfl | rfl | rfl | rfl | rfl
  all_goals first | exact DZ _ | decide
 | false =>
  refine⟨by simp,fun w hw=>?_⟩
  simp only [Zad,Zam,Zbd,or_false] at hw
  rcases hw with rfl | rfl | rfl | rfl | rfl | rfl
  all_goals first | exact DZ _ | decide
def AaZ (s:Ae) (b:Int):List UInt8:=bif L8 s b then Fi (QP s b) else []
def N1 (s:Ae):Nat→Nat→List UInt8
 | _,0=>[]
 | i,k+1=>AaZ s (i:Int)++N1 s (i+1) k
theorem OG (s:Ae) (b:Int):(AaZ s b).length≤311:=by
 unfold AaZ
 cases L8 s b with
 | true=>exact EG (SG s b).1 (SG s b).2
 | false=>simp
theorem SH (s:Ae):∀ (k i:Nat),(N1 s i k).length≤311*k
 | 0,_=>by simp [N1]
 | k+1,i=>by
  have h1:=OG s (i:Int)
  have h2:=SH s k (i+1)
  unfold N1
  rw [Zaj]
  omega
def Ahx (s:Ae) (out:List UInt8) (lines:List ByteArray) (errs:List Int):Ab×(Unit×List (IK .u8)×Unit)×List ByteArray×Unit×List Int×Unit×(Unit×Unit)×(Unit×(Unit×Unit))×Unit:=(Ab.mk s,((),bL out,()),lines,(),errs,(),((),()),((),((),())),())
theorem YF {n:Nat} {s:Ae} (hg:Cs s) (hm:HV s) {b:Int} (hb:0≤b∧b≤1000) (hn:1100<n) {out:List UInt8} (ho:out.length≤1000000) {β:Type} {K:Ab→List (IK .u8)→Option β} :
  ((Bd n (Ab.mk s) b).bind fun v1 =>
    (Dj n v1.fst.state.cards b 1000000).bind fun v2 =>
    (BV n b).bind fun v3 =>
    (BV n v1.snd.fst).bind fun v4 =>
    (BV n (v2.fst.length:Int)).bind fun v5 =>
    (Vj n v1.fst b).bind fun v6 =>
    bif decide (v6.snd.fst≥0) then((FJ n ([B [98,117,115],v3.fst,B [109,105,108,101,115],v4.fst,B [111,112,101,110],v5.fst].append [B [111,117,116]]) (B [32])).bind fun v7 =>
     (An v7.fst (B [10])).bind fun v8=>(app (bL out) (HE v8)).bind fun v9=>K v6.fst v9)
    else(FJ n [B [98,117,115],v3.fst,B [109,105,108,101,115],v4.fst,B [111,112,101,110],v5.fst] (B [32])).bind fun v7 =>
     (An v7.fst (B [10])).bind fun v8=>(app (bL out) (HE v8)).bind fun v9=>K v6.fst v9)=K (Ab.mk s) (bL (out++Fi (QP s b))):=by
 have hc:=hg.cards
 have hr:=hg.runs
 have hs:=Nx (Du b s.runs) fun r h=>hm.runs r (Zbp.1 h).1
 have hbl:=Vz b s.runs
 have ho2:=VH s.cards b 1000000
 obtain⟨w1,w2⟩:=SG s b
 rw [VG hg hm b (by omega),Zaa]
 simp only
 rw [WD hg.kind (by omega) (by omega),Zaa,E6 (by omega) (by omega),Zaa,E6 (by omega) (by omega),Zaa]
 simp only
 rw [E6 (by omega) (by omega),Zaa,RM hg b (by omega),Zaa]
 simp only
 unfold QP at w1 w2 ⊢
 cases hgo:decide (FW s.outs b≥0) with
 | true =>
  rw [hgo] at w1 w2
  simp only [Zab]
  exact Gu w1 w2 ho
 | false =>
  rw [hgo] at w1 w2
  simp only [Zad]
  exact Gu w1 w2 ho
theorem Afn {s:Ae} (hg:Cs s) (hm:HV s) (lines:List ByteArray) (errs:List Int):∀ (n i:Nat)(out:List UInt8),1200+(100-i)<n→i≤100→out.length≤311*i→AR n lines (Ab.mk s) errs (bL out) (i:Int)=some (.inr (Ahx s (out++N1 s i (100-i)) lines errs))
 | 0,_,_,h,_,_=>absurd h (Zal _)
 | n+1,i,out,h,hi,ho=>by
  rw [AR]
  by_cases hx:i<100
  · obtain⟨k,hk⟩:∃ k,100-i=k+1:=⟨100-i-1,by omega⟩
    have hk2:100-(i+1)=k:=by omega
    have ih:=fun out ho=>Afn hg hm lines errs n (i+1) out (by omega) (by omega) ho
    rw [hk2] at ih
    have hbl:=OG s (i:Int)
    rw [Zaf (show(i:Int)<100 by omega),Zab,YE hg hm (i:Int) (by omega),Zaa,wN i (by omega),hk]
    simp only [N1]
    unfold AaZ at hbl ⊢
    cases hb:L8 s (i:Int) with
    | false =>
     simp only [Za7,Zab,Zad,Zax]
     exact ih out (by omega)
    | true =>
     rw [hb] at hbl
     simp only [ZaC,Zab,Zad] at hbl ⊢
     refine(YF hg hm ⟨by omega,by omega⟩ (by omega) (by omega) (K:=fun g o=>AR n lines g errs o ((i+1:Nat):Int))).trans ?_
     rw [ih _ (by rw [Zaj]; omega),Za6]
  · have:i=100:=by omega
    subst this
    rw [show decide (((100:Nat):Int)<100)=false from rfl]
    simp only [Zad,Nat.sub_self,N1,Zbh]
    rfl
theorem Afo {s:Ae} (hg:Cs s) (hm:HV s) (lines:List ByteArray) (errs:List Int):∀ (n i:Nat),1200+(100-i)<n→i≤100→BM n lines (Ab.mk s) errs (bL []) (i:Int)=some (.inl (Ahx s (N1 s i (100-i)) lines errs))∨BM n lines (Ab.mk s) errs (bL []) (i:Int)=some (.inr (Ahx s (N1 s i (100-i)) lines errs))
 | 0,_,h,_=>absurd h (Zal _)
 | n+1,i,h,hi=>by
  rw [BM]
  by_cases hx:i<100
  · obtain⟨k,hk⟩:∃ k,100-i=k+1:=⟨100-i-1,by omega⟩
    have hk2:100-(i+1)=k:=by omega
    have hbl:=OG s (i:Int)
    rw [Zaf (show(i:Int)<100 by omega),Zab,YE hg hm (i:Int) (by omega),Zaa,wN i (by omega),hk]
    simp only [N1]
    unfold AaZ at hbl ⊢
    cases hb:L8 s (i:Int) with
    | false =>
     simp only [Za7,Zab,Zad,Zax]
     have:=Afo hg hm lines errs n (i+1) (by omega) (by omega)
     rw [hk2] at this
     exact this
    | true =>
     rw [hb] at hbl
     simp only [ZaC,Zab,Zad] at hbl ⊢
     refine .inr ((YF (out:=[]) hg hm ⟨by omega,by omega⟩ (by omega) (by simp) (K:=fun g o=>AR n lines g errs o ((i+1:Nat):Int))).trans ?_)
     rw [Zax,Afn hg hm lines errs n (i+1) _ (by omega) (by omega) (by omega),hk2]
  · have:i=100:=by omega
    subst this
    rw [show decide (((100:Nat):Int)<100)=false from rfl]
    simp only [Zad,Nat.sub_self,N1]
    exact .inl rfl
theorem Ahy {n:Nat} {lines:List ByteArray} (hr:Jy lines=true) (hn:1600≤n):FI n lines (Ab.mk (A9 Aq lines).1) (A9 Aq lines).2=some (Ab.mk (A9 Aq lines).1,(Hi (A9 Aq lines).1.cards lines (A9 Aq lines).2 0,())):=by
 obtain⟨h1,h2⟩:=Km.1 hr
 have hs:∀ t∈lines,t.size≤1000000:=fun t ht=>ZaM (h2 t ht) (by decide)
 have hL:=Ho lines 0 Aq (Fh.less (by omega))
 unfold FI
 have h:=Kr lines (A9 Aq lines).2 (Ab.mk (A9 Aq lines).1) hL.1 hs (by omega) (M3 _ _) (fun i hi h0=>Vx lines Aq i hi h0) n 0 [] (by omega) (by omega) (by simp)
 rw [show((0:Nat):Int)=0 from rfl,Zar,Zar,Zax] at h
 rw [h]; rfl
def Gk (l:List Aa):Nat:=(l.filter fun r=>decide (r.kind.n=0)).length
def FL:List Aa→Int
 | []=>0
 | r::l=>(bif decide (r.kind.n=0) then r.b else 0)+FL l
theorem WP {r:Aa} (h:A2 r=true) (h0:r.kind.n=0):0≤r.b∧r.b≤10000:=by
 unfold A2 at h
 rw [Zaf h0] at h
 simp [BF] at h
 omega
theorem Kw:∀ l:List Aa,(∀ r∈l,A2 r=true)→0≤FL l∧FL l≤10000*(l.length:Int)
 | [],_=>by simp [FL]
 | r::l,h=>by
  have h2:=Kw l fun x hx=>h x (by simp [hx])
  unfold FL
  simp only [Zau]
  by_cases h0:r.kind.n=0
  · have:=WP (h r (by simp)) h0
    rw [Zaf h0,Zab]; omega
  · rw [Zae h0,Zad]; omega
theorem Aba (g:Ab) (o:List (IK .u8)) (full:List Aa) (hr:∀ r∈full,A2 r=true) (hl:full.length≤1000):∀ (n i a b:Nat),full.length-i<n→i≤full.length→a≤i→b≤10000*i→Bf n g o (a:Int) (b:Int) full (full.length:Int) (i:Int)=some (g,((),o,()),(),(),((),()),((),((),())),(a:Int)+(Gk (full.drop i):Int),(b:Int)+FL (full.drop i),())
 | 0,_,_,_,h,_,_,_=>absurd h (Zal _)
 | n+1,i,a,b,h,hi,ha,hb=>by
  rw [Bf]
  by_cases hx:i<full.length
  · have hd:full.drop i=full[i]::full.drop (i+1):=Zai hx
    rw [show decide ((i:Int)<(full.length:Int))=true by simp; omega,Zab,AO hx,Zaa,wN i (by omega),hd]
    unfold Gk FL
    by_cases h0:full[i].kind.n=0
    · obtain⟨b0,b1⟩:=WP (hr _ (Zav hx)) h0
      obtain⟨m,hm⟩:∃ m:Nat,full[i].b=m:=⟨full[i].b.toNat,by omega⟩
      rw [Zaf h0,Zab,wN a (by omega),hm,BG (x:=(b:Int)+(m:Int)) (by omega) (by omega),ZaZ (by simpa using h0)]
      have:=Aba g o full hr hl n (i+1) (a+1) (b+m) (by omega) (by omega) (by omega) (by omega)
      rw [show((b+m:Nat):Int)=(b:Int)+(m:Int) by omega] at this
      rw [this]
      unfold Gk
      simp only [Zab,Zau]
      rw [show((a+1:Nat):Int)+((((full.drop (i+1)).filter fun r=>decide (r.kind.n=0)).length:Nat):Int)=(a:Int)+(((((full.drop (i+1)).filter fun r=>decide (r.kind.n=0)).length+1:Nat)):Int) by omega,Int.add_assoc]
    · rw [Zae h0,Zad,ZaU (by simpa using h0),Zad,Zbv]
      exact Aba g o full hr hl n (i+1) a b (by omega) (by omega) (by omega) (by omega)
  · have hd:full.drop i=[]:=by simp; omega
    rw [show decide ((i:Int)<(full.length:Int))=false by simp; omega,hd]
    simp [Gk,FL]
def HP:List Bc→Int→Int→Int×Int
 | [],a,b=>(a,b)
 | k::l,a,b=>HP l (IntKind.i64.wrap (a+k.sales)) (IntKind.i64.wrap (b+k.coins))
def Aim (x:Int):Prop:=-9223372036854775808≤x∧x≤9223372036854775807
theorem YG (x:Int):Aim (IntKind.i64.wrap x):=by
 unfold Aim
 simp [IntKind.wrap,IntKind.bits,IntKind.signed]; omega
theorem YH:∀ (l:List Bc)(a b:Int),Aim a→Aim b→Aim (HP l a b).1∧Aim (HP l a b).2
 | [],_,_,h1,h2=>⟨h1,h2⟩
 | k::l,a,b,_,_=>by unfold HP; exact YH l _ _ (YG _) (YG _)
theorem Afp (g:Ab) (o:List (IK .u8)) (e:Int) (full:List Bc) (hl:full.length≤1000):∀ (n i:Nat)(a b:Int),full.length-i<n→i≤full.length→BN n g o a b e full (full.length:Int) (i:Int)=some (g,((),o,()),(),(),((),()),((),((),())),(HP (full.drop i) a b).1,(HP (full.drop i) a b).2,e,())
 | 0,_,_,_,h,_=>absurd h (Zal _)
 | n+1,i,a,b,h,hi=>by
  rw [BN]
  by_cases hx:i<full.length
  · have hd:full.drop i=full[i]::full.drop (i+1):=Zai hx
    rw [show decide ((i:Int)<(full.length:Int))=true by simp; omega,Zab,AO hx,Zaa,wN i (by omega),hd]
    unfold HP
    exact Afp g o e full hl n (i+1) _ _ (by omega) (by omega)
  · have hd:full.drop i=[]:=by simp; omega
    rw [show decide ((i:Int)<(full.length:Int))=false by simp; omega,hd]
    rfl
def Hq (l:List Int):Nat:=(l.filter fun x=>x != -1).length
theorem Abb (g:Ab) (o:List (IK .u8)) (full:List Int) (hl:full.length≤1000):∀ (n i a:Nat),full.length-i<n→i≤full.length→a≤i→AD n g o (a:Int) full (full.length:Int) (i:Int)=some (g,((),o,()),(),(),((),()),((),((),())),(a:Int)+(Hq (full.drop i):Int),())
 | 0,_,_,h,_,_=>absurd h (Zal _)
 | n+1,i,a,h,hi,ha=>by
  rw [AD]
  by_cases hx:i<full.length
  · have hd:full.drop i=full[i]::full.drop (i+1):=Zai hx
    rw [show decide ((i:Int)<(full.length:Int))=true by simp; omega,Zab,AO hx,Zaa,wN i (by omega),hd]
    unfold Hq
    cases hb:(full[i] != -1) with
    | true =>
     rw [Zab,wN a (by omega),ZaZ (p:=fun x=>x != -1) hb,Abb g o full hl n (i+1) (a+1) (by omega) (by omega) (by omega)]
     unfold Hq
     rw [Zau,show((a+1:Nat):Int)+((((full.drop (i+1)).filter fun x=>x != -1).length:Nat):Int)=(a:Int)+(((((full.drop (i+1)).filter fun x=>x != -1).length+1:Nat)):Int) by omega]
    | false =>
     rw [Zad,ZaU (p:=fun x=>x != -1) (by rw [hb]; exact Bool.false_ne_true)]
     exact Abb g o full hl n (i+1) a (by omega) (by omega) (by omega)
  · have hd:full.drop i=[]:=by simp; omega
    rw [show decide ((i:Int)<(full.length:Int))=false by simp; omega,hd]
    simp [Hq]
theorem YI (l:List UInt8):Nl (bL l)=some (Ep l):=by
 unfold Nl
 rw [show(bL l).all (fun x=>decide (0≤x.n) && decide (x.n<256))=true from Za9.2 fun x hx=>by
  unfold bL at hx
  obtain⟨b,_,rfl⟩:=ZaY.1 hx
  have:=b.toNat_lt
  simp; omega,Zab,AgT]
theorem AjX {a:ByteArray} (ha:a.data.toList.length≤30) (x:Int):∀ w∈[a,B0 x],w.data.toList.length≤30:=by
 intro w hw
 simp only [Zam,Zbd,or_false] at hw
 rcases hw with rfl | rfl
 · exact ha
 · exact DZ _
theorem Ain {a c:ByteArray} (ha:a.data.toList.length≤30) (hc:c.data.toList.length≤30) (x y:Int):∀ w∈[a,B0 x,c,B0 y],w.data.toList.length≤30:=by
 intro w hw
 simp only [Zam,Zbd,or_false] at hw
 rcases hw with rfl | rfl | rfl | rfl
 · exact ha
 · exact DZ _
 · exact hc
 · exact DZ _
theorem AiI {a c:ByteArray} (ha:a.data.toList.length≤30) (hc:c.data.toList.length≤30):∀ w∈[a,c],w.data.toList.length≤30:=by
 intro w hw
 simp only [Zam,Zbd,or_false] at hw
 rcases hw with rfl | rfl
 · exact ha
 · exact hc
def Afq (a:List Bc) (e:Int):List UInt8:=bif decide (e=0) then Fi [B [108,97,99,107],B0 (HP a 0 0).1,B [99,111,105,110,115],B0 (HP a 0 0).2] else Fi [B [108,97,99,107],B [117,110,107,110,111,119,110]]
def Ahz (s:Ae) (late:Nat) (a:List Bc) (e:Int):List UInt8 :=
 N1 s 0 100++Fi [B [108,97,116,101],B0 (late:Int)]++Fi [B [115,97,108,101,115],B0 (Gk s.records:Int),B [99,111,105,110,115],B0 (FL s.records)]++Afq a e++Fi [B [100,117,116,105,101,115],B0 (Hq s.roster:Int),B [111,102],B0 (s.roster.length:Int)]
set_option maxHeartbeats 1000000 in
theorem Ady {n:Nat} {lines:List ByteArray} (hr:Jy lines=true) (hn:2000≤n) {a:List Bc} {e:Int} (hlk:D9 n (A9 Aq lines).1.records=some (a,(e,()))) (ha:a.length≤1000) :
  En n lines=some (Ep (Ahz (A9 Aq lines).1 (Hi (A9 Aq lines).1.cards lines (A9 Aq lines).2 0).length a e),(0,())):=by
 obtain⟨h1,h2⟩:=Km.1 hr
 have hs:∀ t∈lines,t.size≤1000000:=fun t ht=>ZaM (h2 t ht) (by decide)
 have hg:=(Ho lines 0 Aq (Fh.less (by omega))).1
 have hm:=Ny lines Aq QI
 have hrec:=Kt lines Aq Jd
 have hlate:=Ahy (n:=n) hr (by omega)
 have hll:=PL (A9 Aq lines).1.cards lines (A9 Aq lines).2 0
 unfold En
 rw [XY (by omega) (by omega),hr,Zaa]
 simp only [Zab]
 rw [show((0:Int) != 0)=false from rfl,Zad,Ahj hs (by omega) (by omega),Zaa]
 simp only
 generalize Hi (A9 Aq lines).1.cards lines (A9 Aq lines).2 0=L at *
 generalize (A9 Aq lines).2=errs at *
 generalize (A9 Aq lines).1=S at *
 have hlen:=hrec.len
 have hcb:=Kw S.records hrec.right
 have hro:S.roster.length≤12:=by have:=hg.ros; have:=hg.duties; omega
 have h3:∀ o,Bf n (Ab.mk S) o 0 0 S.records (S.records.length:Int) 0=some (Ab.mk S,((),o,()),(),(),((),()),((),((),())),(Gk S.records:Int),FL S.records,()):=fun o=>by
  have h:=Aba (Ab.mk S) o S.records hrec.right (by omega) n 0 0 0 (by omega) (by omega) (by omega) (by omega)
  rw [show((0:Nat):Int)=0 from rfl,Zar,Zbv,Zbv] at h
  exact h
 have h4:∀ o,BN n (Ab.mk S) o 0 0 e a (a.length:Int) 0=some (Ab.mk S,((),o,()),(),(),((),()),((),((),())),(HP a 0 0).1,(HP a 0 0).2,e,()):=fun o=>Afp (Ab.mk S) o e a ha n 0 0 0 (by omega) (by omega)
 have h5:∀ o,AD n (Ab.mk S) o 0 S.roster (S.roster.length:Int) 0=some (Ab.mk S,((),o,()),(),(),((),()),((),((),())),(Hq S.roster:Int),()):=fun o=>by
  have h:=Abb (Ab.mk S) o S.roster (by omega) n 0 0 (by omega) (by omega) (by omega)
  rw [show((0:Nat):Int)=0 from rfl,Zar,Zbv] at h
  exact h
 have hsw:=YH a 0 0 (by unfold Aim; omega) (by unfold Aim; omega)
 have hsn:Gk S.records≤S.records.length:=Zbf _ _
 have hgn:Hq S.roster≤S.roster.length:=Zbf _ _
 have hbl:=SH S 100 0
 rcases Afo hg hm lines errs n 0 (by omega) (by omega) with h | h
 all_goals
  simp only [Nat.sub_zero] at h
  have h:BM n lines (Ab.mk S) errs [] 0=_:=h
  rw [h,Zaa]
  simp only [Za3,Sum.elim_inr,Ahx]
  rw [hlate,Zaa,E6 (by simp only; omega) (by simp only; omega),Zaa]
  refine(Gu (by simp) (AjX (by decide) _) (by omega)).trans ?_
  have l1:=EG (ws:=[B [108,97,116,101],B0 (L.length:Int)]) (by simp) (AjX (by decide) _)
  have l2:=EG (ws:=[B [115,97,108,101,115],B0 (Gk S.records:Int),B [99,111,105,110,115],B0 (FL S.records)]) (by simp) (Ain (by decide) (by decide) _ _)
  show Option.bind (Bf n (Ab.mk S) _ 0 0 S.records (S.records.length:Int) 0) _=_
  rw [h3,Zaa]
  simp only
  rw [E6 (by omega) (by omega),Zaa,E6 (by omega) (by omega),Zaa]
  refine(Gu (by simp) (Ain (by decide) (by decide) _ _) (by rw [Zaj]; omega)).trans ?_
  show Option.bind (D9 n S.records) _=_
  rw [hlk,Zaa]
  simp only
  rw [h4,Zaa]
  simp only
  unfold Ahz Afq
  cases he:decide (e=0) with
  | true =>
   simp only [Zab]
   rw [E6 hsw.1.1 hsw.1.2,Zaa,E6 hsw.2.1 hsw.2.2,Zaa]
   have l3:=EG (ws:=[B [108,97,99,107],B0 (HP a 0 0).1,B [99,111,105,110,115],B0 (HP a 0 0).2]) (by simp) (Ain (by decide) (by decide) _ _)
   refine(Gu (by simp) (Ain (by decide) (by decide) _ _) (by simp only [Zaj]; omega)).trans ?_
   show Option.bind (AD n (Ab.mk S) _ 0 S.roster (S.roster.length:Int) 0) _=_
   rw [h5,Zaa]
   simp only
   rw [E6 (by omega) (by omega),Zaa,E6 (by omega) (by omega),Zaa]
   refine(Gu (by simp) (Ain (by decide) (by decide) _ _) (by simp only [Zaj]; omega)).trans ?_
   show Option.bind (Nl _) _=_
   rw [YI,Zaa]
  | false =>
   simp only [Zad]
   have l3:=EG (ws:=[B [108,97,99,107],B [117,110,107,110,111,119,110]]) (by simp) (AiI (by decide) (by decide))
   refine(Gu (by simp) (AiI (by decide) (by decide)) (by simp only [Zaj]; omega)).trans ?_
   show Option.bind (AD n (Ab.mk S) _ 0 S.roster (S.roster.length:Int) 0) _=_
   rw [h5,Zaa]
   simp only
   rw [E6 (by omega) (by omega),Zaa,E6 (by omega) (by omega),Zaa]
   refine(Gu (by simp) (Ain (by decide) (by decide) _ _) (by simp only [Zaj]; omega)).trans ?_
   show Option.bind (Nl _) _=_
   rw [YI,Zaa]
theorem YJ (s:ByteArray):s.beq s=true:=by
 rw [← Gd s,AiA]; simp
theorem Afr:∀ (x:Nat),x<10→Q2 [IK.mk (IntKind.u8.wrap (IntKind.i64.wrap (48+(if (x:Int)>0 then(x:Int) else 0).tmod 10)))]=Ep [UInt8.ofNat (48+x)]
 | 0,_=>rfl
 | 1,_=>rfl
 | 2,_=>rfl
 | 3,_=>rfl
 | 4,_=>rfl
 | 5,_=>rfl
 | 6,_=>rfl
 | 7,_=>rfl
 | 8,_=>rfl
 | 9,_=>rfl
 | x+10,h=>absurd h (by omega)
theorem SI:∀ (k n x:Nat),x<10 ^ (k+1)→x≤1000000000000000000→k≤18→k<n→AB n (x:Int)=some (Ep (KD (k+1) x),())
 | _,0,_,_,_,_,h=>absurd h (Zal _)
 | k,n+1,x,hx,hb,hk,h=>by
  rw [AB]
  by_cases h10:x<10
  · rw [Zaf (show(x:Int)<10 by omega),Zab,Afr x h10]
    unfold KD
    rw [show Nat.blt x 10=true from Za2 h10,Zab]
  · match k,hx,hk,h with
    | 0,hx,_,_=>simp at hx; omega
    | k+1,hx,hk,h =>
     have e1:(x:Int).tdiv 10=((x / 10:Nat):Int):=rfl
     have e2:(x:Int).tmod 10=((x % 10:Nat):Int):=rfl
     have hx1:x / 10<10 ^ (k+1):=by rw [Zb7] at hx; omega
     have d1:KD 1 (x % 10)=[UInt8.ofNat (48+x % 10)]:=by
      unfold KD
      rw [show Nat.blt (x % 10) 10=true from Za2 (by omega),Zab]
     have d2:KD (k+1+1) x=KD (k+1) (x / 10)++[UInt8.ofNat (48+x % 10)]:=by
      rw [KD]
      rw [show Nat.blt x 10=false from by
       cases hb:Nat.blt x 10 with
       | false=>rfl
       | true=>exact absurd (Zah hb) h10,Zad]
     have hl:=OF (k+1) (x / 10)
     rw [Zae (show ¬ (x:Int)<10 by omega),Zad,e1,e2,BG (by omega) (by omega),SI k n (x / 10) hx1 (by omega) (by omega) (by omega),Zaa,SI 0 n (x % 10) (by simp; omega) (by omega) (by omega) (by omega),Zaa]
     simp only
     rw [show(0+1)=1 from rfl,d1,d2,My (by simp only [Zau,ZaV]; omega),Zaa]
theorem M5 {n:Nat} {x:Int} (h0:0≤x) (h1:x≤1000000000000000000) (hn:20<n):AB n x=some (B0 x,()):=by
 obtain⟨m,rfl⟩:∃ m:Nat,x=m:=⟨x.toNat,by omega⟩
 have hm:m<10 ^ 19:=by omega
 rw [SI 18 n m hm (by omega) (by omega) (by omega)]
 have e:KD 19 m=KD 20 m:=by
  rw [Pn 19 m hm (by omega),Pn 20 m (by omega) (by omega)]
 show some (Ep (KD 19 m),())=some (Ep (Po (Int.ofNat m)),())
 rw [e]; rfl
theorem sa {a:List UInt8} {s:ByteArray} {β:Type} {K:ByteArray→Option β} (h:a.length+s.data.toList.length≤1000000000):(An (Ep a) s).bind K=K (Ep (a++s.data.toList)):=by
 have:=My h
 rw [Gd] at this
 rw [this,Zaa]
theorem Abc:∀ (l:List Ak)(m:List (Int×Ak))(o:List Int)(m':List (Int×Ak))(o':List Int),WB m o l=some (m',o')→o.Nodup→(∀ v∈o,Ct BE m v=true)→o'.Nodup
 | [],m,o,m',o',h,hn,_=>by
  unfold WB at h
  cases h; exact hn
 | c::l,m,o,m',o',h,hn,hm=>by
  unfold WB at h
  cases hb:Ct BE m c.number with
  | true =>
   rw [hb,Zab] at h
   cases hs:CP (AG BE m c.number zC) c with
   | true=>rw [hs,Zab] at h; exact Abc l m o m' o' h hn hm
   | false=>rw [hs,Zad] at h; cases h
  | false =>
   rw [hb,Zad] at h
   refine Abc l _ _ m' o' h ?_ fun v hv=>?_
   · rw [ZbA]
     refine⟨hn,by simp,fun a ha b hb2 e=>?_⟩
     rw [Zat.1 hb2] at e
     have:=hm a ha
     rw [e,hb] at this; cases this
   · rw [JJ I2]
     rcases Zao.1 hv with hv | hv
     · exact .inr (hm v hv)
     · exact .inl (Zat.1 hv).symm
theorem Afs {f:Int→Int}:∀ {l:List Int},(∀ v∈l,f v=v)→l.map f=l
 | [],_=>rfl
 | v::l,h=>by rw [ZbB,h v (by simp),Afs fun x hx=>h x (by simp [hx])]
theorem Aft (l:List Ak) (b a:Int):(Cm l b a).1.Nodup:=by
 unfold Cm
 split
 · simp
 · rename_i y hy
   split
   · obtain⟨_,_,o,ho,he⟩:=JH hy
     have hnd:=Abc l [] [] y.1 o ho (by simp) (by simp)
     obtain⟨_,s2,_,s4,_⟩:=O6 l [] [] y.1 o ho
     have hp:y.2.Perm o:=by rw [he]; exact FB o
     have hnd2:y.2.Nodup:=hp.nodup_iff.2 hnd
     show(Ae7 y.1 y.2 b a).Nodup
     unfold Ae7
     rw [Afs fun v hv=>by
      have hv:v∈y.2:=(Zbp.1 hv).1
      rcases s4 v (hp.mem_iff.1 hv) with h | ⟨c,hc,e⟩
      · simp at h
      · have:=s2 c hc
        rw [e] at this
        unfold AG
        rw [this]; exact e]
     exact List.Pairwise.filter _ hnd2
   · simp
theorem Afu {q:Int→Bool}:∀ (k s:Nat),(Afb q k s).Nodup
 | 0,_=>by simp [Afb]
 | k+1,s=>by
  unfold Afb
  rw [ZbA]
  refine⟨by cases q (s:Int) <;> simp,Afu k (s+1),fun a ha b hb e=>?_⟩
  have h1:=(WM k (s+1)).1 hb
  have h2:a=(s:Int):=by
   cases hq:q (s:Int) with
   | true=>rw [hq] at ha; simpa using ha
   | false=>rw [hq] at ha; simp at ha
  omega
theorem Adz {l:List Ak} {bus at_:Int} (h:WC l=0) (hb:(BF bus 0 99 && BF at_ 0 1000000)=true):(HO l bus at_).length=(Cm l bus at_).1.length :=
 ((List.perm_ext_iff_of_nodup (Afu _ _) (Aft l bus at_)).2 fun x=>VA h hb x).length_eq
theorem PU (b:Int) (s:Ae) (hl:s.cards.length≤1000) (miles:Int):∀ (n i:Nat)(is:Bool),s.cards.length-i<n→i≤s.cards.length→Fx n b s miles is (i:Int)=some (s,(b,((),(miles,((is || (s.cards.drop i).any fun c=>decide (c.bus=b)),())))))
 | 0,_,_,h,_=>absurd h (Zal _)
 | n+1,i,is,h,hi=>by
  rw [Fx]
  by_cases hx:i<s.cards.length
  · have hd:s.cards.drop i=s.cards[i]::s.cards.drop (i+1):=Zai hx
    rw [show decide ((i:Int)<(s.cards.length:Int))=true by simp; omega,Zab,AO hx,Zaa,wN i (by omega),hd,Zbx,PU b s hl miles n (i+1) _ (by omega) (by omega),PU b s hl miles n (i+1) _ (by omega) (by omega)]
    cases is <;> simp
  · have hd:s.cards.drop i=[]:=by simp; omega
    rw [show decide ((i:Int)<(s.cards.length:Int))=false by simp; omega,hd]
    simp
theorem Aj8 (a b c d e f:ByteArray):Fi [a,b,c,d,e,f]=a.data.toList++32::(b.data.toList++32::(c.data.toList++32::(d.data.toList++32::(e.data.toList++32::(f.data.toList++[10]))))):=by
 simp [Fi,EX,List.intercalate,Ep]
 rfl
theorem Aj9 (a b c d e f g:ByteArray):Fi [a,b,c,d,e,f,g]=a.data.toList++32::(b.data.toList++32::(c.data.toList++32::(d.data.toList++32::(e.data.toList++32::(f.data.toList++32::(g.data.toList++[10])))))):=by
 simp [Fi,EX,List.intercalate,Ep]
 rfl
theorem AjA (a b c d:ByteArray):Fi [a,b,c,d]=a.data.toList++32::(b.data.toList++32::(c.data.toList++32::(d.data.toList++[10]))):=by
 simp [Fi,EX,List.intercalate,Ep]
 rfl
theorem Aio (a b:ByteArray):Fi [a,b]=a.data.toList++32::(b.data.toList++[10]):=by
 simp [Fi,EX,List.intercalate,Ep]
 rfl
theorem Afv {n:Nat} {s:Ae} (hg:Cs s) (hm:HV s) {b:Int} (hb:0≤b∧b≤99) (hn:1300<n) :
  ((AB n b).bind fun v3 =>
  (An (B [98,117,115,32]) v3.fst).bind fun v4 =>
  (An v4 (B [32,109,105,108,101,115,32])).bind fun v5 =>
  (AB n (GB (Du b s.runs))).bind fun v6 =>
  (An v5 v6.fst).bind fun v7 =>
  (An v7 (B [32,111,112,101,110,32])).bind fun v8 =>
  (D7 n s.cards b 1000000).bind fun v9 =>
  (AB n (v9.fst.length:Int)).bind fun v10 =>
  (An v8 v10.fst).bind fun v11 =>
  (Gy n s b).bind fun v12 =>
  bif decide (v12.fst≥0) then((An v11 (B [32,111,117,116])).bind fun v13 =>
  (An v13 (B [10])).bind fun v14 =>
  some (v14,())) else
  (An v11 (B [10])).bind fun v13 =>
  some (v13,()))=some (Ep (Fi (QP s b)),()):=by
 have hr:=hg.runs
 have ho:=hg.outs
 have hs:=Nx (Du b s.runs) fun r h=>hm.runs r (Zbp.1 h).1
 have hbl:=Vz b s.runs
 have ho2:=VH s.cards b 1000000
 have hbt:(BF b 0 99 && BF 1000000 0 1000000)=true:=by
  rw [Zan,Bx,Bx]
  exact⟨hb,by omega⟩
 have hol:=Adz hg.chk hbt
 have i1:=DZ b
 have i2:=DZ (GB (Du b s.runs))
 have i3:=DZ ((Cm s.cards b 1000000).1.length:Int)
 have l1:(B [98,117,115,32]).data.toList.length=4:=rfl
 have l2:(B [32,109,105,108,101,115,32]).data.toList.length=7:=rfl
 have l3:(B [32,111,112,101,110,32]).data.toList.length=6:=rfl
 have l4:(B [32,111,117,116]).data.toList.length=4:=rfl
 have l5:(B [10]).data.toList.length=1:=rfl
 rw [M5 (by omega) (by omega) (by omega),Zaa]
 simp only
 rw [show B [98,117,115,32]=Ep (B [98,117,115,32]).data.toList from rfl,sa (by omega),sa (by rw [Zaj]; omega),M5 (by omega) (by omega) (by omega),Zaa]
 simp only
 rw [sa (by simp only [Zaj]; omega),sa (by simp only [Zaj]; omega),S5 hg.kind hg.cards (by omega),Zaa]
 simp only
 rw [hol,M5 (by omega) (by omega) (by omega),Zaa]
 simp only
 rw [sa (by simp only [Zaj]; omega),OD (by omega) b (by omega),Zaa]
 simp only
 unfold QP
 cases decide (FW s.outs b≥0) with
 | true =>
  simp only [Zab]
  rw [sa (by simp only [Zaj]; omega),sa (by simp only [Zaj]; omega),Aj9]
  simp only [Za6]
  rfl
 | false =>
  simp only [Zad]
  rw [sa (by simp only [Zaj]; omega),Aj8]
  simp only [Za6]
  rfl
theorem AiJ {n:Nat} {s:Ae} (hg:Cs s) (hm:HV s) {b:Int} (hb:0≤b∧b≤99) (hn:1300<n):P2 n s b=some (Ep (AaZ s b),()):=by
 have hr:=hg.runs
 have ho:=hg.outs
 have hc:=hg.cards
 have ht:=Afv hg hm hb hn
 have hl:=fun is=>PU b s (by omega) (GB (Du b s.runs)) n 0 is (by omega) (by omega)
 rw [show((0:Nat):Int)=0 from rfl,Zar] at hl
 unfold P2
 rw [YC b hm.runs (by omega) (by omega),Zaa]
 simp only
 unfold AaZ L8
 by_cases h0:0<(Du b s.runs).length
 · rw [Zaf (show(((Du b s.runs).length:Nat):Int)>0 by omega),Zaf h0,hl,Zaa]
   simp only [ZaC,Zad,Bool.true_or,Zab]
   exact ht
 · rw [Zae (show ¬ (((Du b s.runs).length:Nat):Int)>0 by omega),Zae h0,OD (by omega) b (by omega),Zaa,hl,Zaa]
   simp only [Za7,Zab,Zbs]
   cases decide (FW s.outs b≥0) || s.cards.any fun c=>decide (c.bus=b) with
   | true=>simp only [ZaC,Zad,Zab]; exact ht
   | false=>rfl
theorem Afw (l out:List Aa) {i:Nat} (hi:i<l.length) (hd:∀ a∈out,BH a≠BH l[i]) (hl:out.length≤1000):∀ (n k:Nat),out.length-k<n→k≤out.length→EJ n l out (i:Int) false (k:Int)=some (l,(out,((i:Int),(false,()))))
 | 0,_,h,_=>absurd h (Zal _)
 | n+1,k,h,hk=>by
  rw [EJ]
  by_cases hx:k<out.length
  · have hne:=hd _ (Zav hx)
    rw [Sw] at hne
    rw [show decide ((k:Int)<(out.length:Int))=true by simp; omega,Zab,Za7,Zab,AO hx,Zaa,List.get?Internal_eq_getElem?,Int.toNat_natCast,Zap hx,Zaa,AO hi,Zaa,wN k (by omega)]
    have hz:(decide (out[k].machine=l[i].machine) && (decide (out[k].seq=l[i].seq) && (decide (out[k].minute=l[i].minute) && (decide (out[k].kind.n=l[i].kind.n) && (decide (out[k].a=l[i].a) && (decide (out[k].b=l[i].b) && true))))))=false:=by
     by_cases c1:out[k].machine=l[i].machine
     · by_cases c2:out[k].seq=l[i].seq
       · exact absurd ⟨c1,c2⟩ hne
       · rw [Zae c2,Bool.false_and,Zbm]
     · rw [Zae c1,Bool.false_and]
    rw [hz]
    exact Afw l out hi hd hl n (k+1) (by omega) (by omega)
  · rw [show decide ((k:Int)<(out.length:Int))=false by simp; omega]; rfl
theorem WQ {α:Type} (p:List α) (x:α) (q:List α) {k:Nat} (hk:k=p.length):Ao (p++x::q) (k:Int)=some x∧(p++x::q).get?Internal k=some x:=by
 subst hk
 rw [AO (by simp),List.get?Internal_eq_getElem?]
 simp
theorem Ack {α:Type} (p:List α) (x z:α) (q:List α) {k:Nat} (hk:k=p.length):(p++x::q).set k z=p++z::q:=by
 subst hk
 simp
theorem Afx (l:List Aa) (i:Int):∀ (m n:Nat)(pre:List Aa)(x:Aa)(post:List Aa),pre.length=m→m<n→m≤1000→(pre++post).Pairwise (fun a b=>HL a b=true)→(∀ p∈post,HL x p=true)→∃ out',CG n l (pre++x::post) i (m:Int)=some (l,(out',(i,())))∧out'.Perm (pre++x::post)∧out'.Pairwise fun a b=>HL a b=true
 | _,0,_,_,_,_,h,_,_,_=>absurd h (Zal _)
 | 0,n+1,pre,x,post,hp,_,_,hs,hx=>by
  rw [Zby] at hp
  subst hp
  rw [CG]
  rw [show decide (((0:Nat):Int)>0)=false from rfl,Zad]
  exact⟨_,rfl,List.Perm.refl _,ZaG.2 ⟨hx,hs⟩⟩
 | m+1,n+1,pre,x,post,hp,hn,hm,hs,hx=>by
  have hne:pre≠[]:=by intro h; rw [h] at hp; simp at hp
  obtain⟨p,y,rfl⟩:∃ p y,pre=p++[y]:=⟨pre.dropLast,pre.getLast hne,(List.dropLast_concat_getLast hne).symm⟩
  have hpl:p.length=m:=by simpa using hp
  have he:p++[y]++x::post=p++y::x::post:=by simp
  obtain⟨a1,a2⟩:=WQ (p++[y]) x post (k:=m+1) (by simp; omega)
  obtain⟨b1,b2⟩:=WQ p y (x::post) (k:=m) hpl.symm
  have c1:=Ack (p++[y]) x y post (k:=m+1) (by simp; omega)
  have d0:p++[y]++y::post=p++y::y::post:=by simp
  obtain⟨d1,d2⟩:=WQ p y (y::post) (k:=m) hpl.symm
  have d3:=Ack p y x (y::post) (k:=m) hpl.symm
  rw [he] at a1 a2 c1
  rw [d0] at c1
  have hw:IntKind.i64.wrap (((m+1:Nat):Int)-1)=(m:Int):=by rw [BG (by omega) (by omega)]; omega
  have hs':(p++y::post).Pairwise (fun a b=>HL a b=true):=by simpa using hs
  have swap:HL x y=true→∃ out',CG n l (p++x::y::post) i (m:Int)=some (l,(out',(i,())))∧out'.Perm (p++[y]++x::post)∧out'.Pairwise fun a b=>HL a b=true:=fun hxy=>by
   obtain⟨o,e1,e2,e3⟩:=Afx l i m n p x (y::post) hpl (by omega) (by omega) hs' (fun q hq=>by
    rcases Zam.1 hq with rfl | hq
    · exact hxy
    · exact hx q hq)
   refine⟨o,e1,e2.trans ?_,e3⟩
   rw [he]
   exact List.Perm.append_left p (List.Perm.swap y x post)
  have stop:HL y x=true→∃ out',(some (l,(p++y::x::post,(i,()))):Option (List Aa×List Aa×Int×Unit))=some (l,(out',(i,())))∧out'.Perm (p++[y]++x::post)∧out'.Pairwise fun a b=>HL a b=true:=fun hyx=>by
   refine⟨_,rfl,by rw [he],?_⟩
   rw [List.pairwise_append] at hs' ⊢
   obtain⟨s1,s2,s3⟩:=hs'
   rw [ZaG] at s2
   refine⟨s1,?_,fun a ha b hb=>?_⟩
   · rw [ZaG,ZaG]
     refine⟨fun b hb=>?_,hx,s2.2⟩
     rcases Zam.1 hb with rfl | hb
     · exact hyx
     · exact s2.1 b hb
   · have h1:=s3 a ha y (by simp)
     rcases Zam.1 hb with rfl | hb
     · exact h1
     · rcases Zam.1 hb with rfl | hb
       · exact V8 a y b h1 hyx
       · exact s3 a ha b (by simp [hb])
  rw [CG,he,Zaf (show((m+1:Nat):Int)>0 by omega)]
  simp only [Zab,a1,Zaa,Int.toNat_natCast,a2,hw,b1,b2,c1,d1,d2,d3]
  rw [he] at swap stop
  rw [UR] at swap stop
  by_cases k1:x.machine<y.machine
  · rw [Zaf k1]
    simp only [ZaC,Zad]
    exact swap (.inl k1)
  · rw [Zae k1]
    simp only [Za7,Zab]
    by_cases k2:x.machine=y.machine
    · rw [Zaf k2,Zab]
      by_cases k3:x.seq<y.seq
      · rw [Zaf k3,Zab]
        exact swap (.inr ⟨k2,by omega⟩)
      · rw [Zae k3,Zad]
        exact stop (.inr ⟨k2.symm,by omega⟩)
    · rw [Zae k2,Zad]
      exact stop (.inl (by omega))
theorem Afy {l:List Aa} (hd:Sx l) (hl:l.length≤900):∀ (n i:Nat)(out:List Aa),1000+(l.length-i)<n→i≤l.length→out.Perm (l.take i)→out.Pairwise (fun a b=>HL a b=true)→∃ out',EL n l out (i:Int)=some (out',())∧out'.Perm l∧out'.Pairwise fun a b=>HL a b=true
 | 0,_,_,h,_,_,_=>absurd h (Zal _)
 | n+1,i,out,h,hi,hp,hs=>by
  have hol:out.length=i:=by rw [hp.length_eq,ZaK]; omega
  rw [EL]
  by_cases hx:i<l.length
  · have hne:∀ a∈out,BH a≠BH l[i]:=fun a ha=>by
     have ha:=hp.mem_iff.1 ha
     obtain⟨j,hj,rfl⟩:=List.mem_take_iff_getElem.1 ha
     exact List.pairwise_iff_getElem.1 hd j i (by omega) hx (by omega)
    have h2:=Afw l out hx hne (by omega) n 0 (by omega) (by omega)
    rw [show((0:Nat):Int)=0 from rfl] at h2
    rw [show decide ((i:Int)<(l.length:Int))=true by simp; omega,Zab,h2,Zaa]
    simp only [Zad]
    rw [AO hx,Zaa,A1 (by simp; omega),Zaa]
    have hk:IntKind.i64.wrap ((((out++[l[i]]).length:Nat):Int)-1)=(out.length:Int):=by
     rw [Zaj,Zau,ZaV,BG (by omega) (by omega)]
     simp
    rw [hk]
    obtain⟨o,e1,e2,e3⟩:=Afx l (i:Int) out.length n out l[i] [] rfl (by omega) (by omega) (by simpa using hs) (by simp)
    rw [e1,Zaa]
    simp only
    rw [wN i (by omega)]
    refine Afy hd hl n (i+1) o (by omega) (by omega) (e2.trans ?_) e3
    rw [ZaD hx]
    exact List.Perm.append_right _ hp
  · have hie:i=l.length:=by omega
    rw [show decide ((i:Int)<(l.length:Int))=false by simp; omega]
    refine⟨out,rfl,?_,hs⟩
    rw [hie,List.take_length] at hp
    exact hp
theorem AiK {n:Nat} {l:List Aa} (hd:Sx l) (hl:l.length≤900) (hn:2000≤n):KU n l=some (Eo HL l,()):=by
 obtain⟨o,e1,e2,e3⟩:=Afy hd hl n 0 [] (by omega) (by omega) (by simp) List.Pairwise.nil
 rw [show((0:Nat):Int)=0 from rfl] at e1
 have hd':Sx o:=(List.Perm.pairwise_iff (fun {a b} (h:BH a≠BH b)=>h.symm) e2).2 hd
 have:=Sz (e2.trans (FB l).symm) hd' e3 (WJ l)
 unfold KU
 rw [e1,Zaa,this]
def L9 (l:List Aa) (m:Int):Option Aa:=l.foldl (fun o v=>bif decide (v.machine=m) && decide (v.kind.n=2) then some v else o) none
def DI (l:List Aa) (m:Int):Aa:=(L9 l m).getD (Aa.mk m 0 0 (IK.mk 0) 0 0)
def I8 (l:List Aa) (m:Int):List Aa:=l.filter fun v=>decide (v.machine=m) && decide (v.seq>(DI l m).seq)
def Afz:Bc→List Aa→Bc
 | o,[]=>o
 | o,v::l=>Afz (bif decide (v.kind.n=0) then Bc.mk o.machine o.fr o.to_ (IntKind.i64.wrap (o.sales-1)) (IntKind.i64.wrap (o.coins-v.b)) else o) l
def Ah0 (fr v:Aa):Bc:=Bc.mk v.machine fr.seq v.seq (IntKind.i64.wrap (v.a-fr.a)) (IntKind.i64.wrap (v.b-fr.b))
def UC (pre:List Aa) (v:Aa):Bc:=Afz (Ah0 (DI pre v.machine) v) (I8 pre v.machine)
def SJ (k:Bc) (room:Int):Bool:=decide (0≤k.sales) && (decide (k.sales≤room) && (decide (0≤k.coins) && decide (k.coins≤IntKind.i64.wrap (10000*k.sales))))
def La (pre:List Aa) (v:Aa):Int:=v.seq-(DI pre v.machine).seq-1-((I8 pre v.machine).length:Int)
def GC:List Aa→List Bc→List Aa→Option (List Bc)
 | _,out,[]=>some out
 | pre,out,v::l=>bif v.kind.n != 2 then GC (pre++[v]) out l else bif SJ (UC pre v) (La pre v) then GC (pre++[v]) (bif decide ((UC pre v).sales>0) then out++[UC pre v] else out) l else none
theorem N2 (l:List Aa) (v:Aa) (m:Int):L9 (l++[v]) m=bif decide (v.machine=m) && decide (v.kind.n=2) then some v else L9 l m:=by
 unfold L9
 rw [List.foldl_append]; rfl
theorem VI (m:Int):∀ (l:List Aa)(o:Option Aa)(r:Aa),l.foldl (fun o v=>bif decide (v.machine=m) && decide (v.kind.n=2) then some v else o) o=some r→o=some r∨r∈l∧r.machine=m∧r.kind.n=2
 | [],o,r,h=>.inl h
 | v::l,o,r,h=>by
  rw [List.foldl_cons] at h
  rcases VI m l _ r h with h | ⟨h1,h2⟩
  · cases hb:decide (v.machine=m) && decide (v.kind.n=2) with
    | false=>rw [hb,Zad] at h; exact .inl h
    | true =>
     rw [hb,Zab] at h
     cases h
     rw [Zan,decide_eq_true_eq,decide_eq_true_eq] at hb
     exact .inr ⟨by simp,hb⟩
  · exact .inr ⟨by simp [h1],h2⟩
theorem Iw {l:List Aa} {m:Int} {r:Aa} (h:L9 l m=some r):r∈l∧r.machine=m:=by
 rcases VI m l none r h with h | ⟨h1,h2,_⟩
 · cases h
 · exact⟨h1,h2⟩
theorem UT (l:List Aa) (m:Int):(DI l m).machine=m:=by
 unfold DI
 cases h:L9 l m with
 | none=>rfl
 | some r=>exact(Iw h).2
theorem Ad0 {l:List Aa} {v:Aa} (h1:∀ r∈l,r.machine=v.machine→r.seq<v.seq) (h0:0<v.seq):(DI l v.machine).seq<v.seq:=by
 unfold DI
 cases h:L9 l v.machine with
 | none=>exact h0
 | some r=>exact h1 r (Iw h).1 (Iw h).2
theorem VJ {l:List Aa} {v:Aa} (hk:(v.kind.n != 2)=true):DI (l++[v]) v.machine=DI l v.machine:=by
 unfold DI
 rw [N2,Zae (show ¬ v.kind.n=2 by simpa using hk),Zbm,Zad]
theorem Ad1 {l:List Aa} {v:Aa} (hk:(v.kind.n != 2)=true) (h1:∀ r∈l,r.machine=v.machine→r.seq<v.seq) (h0:0<v.seq):I8 (l++[v]) v.machine=I8 l v.machine++[v]:=by
 unfold I8
 rw [VJ hk,List.filter_append,ZaZ (by
  have:=Ad0 h1 h0
  rw [Zan,decide_eq_true_eq,decide_eq_true_eq]
  exact⟨rfl,this⟩)]
 rfl
theorem SK {l:List Aa} {v:Aa} (hk:(v.kind.n != 2)=false):DI (l++[v]) v.machine=v:=by
 unfold DI
 rw [N2,Zaf (show v.kind.n=2 by simpa using hk),Zaf rfl]
 rfl
theorem Abd {l:List Aa} {v:Aa} (hk:(v.kind.n != 2)=false) (h1:∀ r∈l,r.machine=v.machine→r.seq<v.seq):I8 (l++[v]) v.machine=[]:=by
 unfold I8
 rw [SK hk,List.filter_eq_nil_iff]
 intro r hr hc
 rw [Zan,decide_eq_true_eq,decide_eq_true_eq] at hc
 rcases Zao.1 hr with hr | hr
 · have:=h1 r hr hc.1; omega
 · rw [Zat.1 hr] at hc; omega
theorem N3 {l:List Aa} {m:Int} (h:∀ r∈l,r.machine≠m):DI l m=Aa.mk m 0 0 (IK.mk 0) 0 0:=by
 unfold DI
 cases h2:L9 l m with
 | none=>rfl
 | some r=>exact absurd (Iw h2).2 (h r (Iw h2).1)
theorem N4 {l:List Aa} {m:Int} (h:∀ r∈l,r.machine≠m):I8 l m=[]:=by
 unfold I8
 rw [List.filter_eq_nil_iff]
 intro r hr hc
 rw [Zan,decide_eq_true_eq] at hc
 exact h r hr hc.1
structure SL (l:List Aa):Prop where
 srt:l.Pairwise fun a b=>HL a b=true
 dist:Sx l
 right:∀ r∈l,A2 r=true
 len:l.length≤60
theorem SL.before {l:List Aa} (h:SL l) {i:Nat} (hi:i<l.length):∀ r∈l.take i,r.machine≤l[i].machine∧(r.machine=l[i].machine→r.seq<l[i].seq):=fun r hr=>by
 obtain⟨j,hj,rfl⟩:=List.mem_take_iff_getElem.1 hr
 have h1:=List.pairwise_iff_getElem.1 h.srt j i (by omega) hi (by omega)
 have h2:=List.pairwise_iff_getElem.1 h.dist j i (by omega) hi (by omega)
 rw [UR] at h1
 rw [Sw] at h2
 refine⟨by omega,fun e=>?_⟩
 have:l[j].seq≠l[i].seq:=fun e2=>h2 ⟨e,e2⟩
 omega
theorem SL.fresh {l:List Aa} (h:SL l) {j:Nat} (hj:j+1<l.length) (hne:(l[j].machine != l[j+1].machine)=true):∀ r∈l.take (j+1),r.machine≠l[j+1].machine:=fun r hr e=>by
 have h1:=(h.before hj l[j] (List.mem_take_iff_getElem.2 ⟨j,by omega,rfl⟩)).1
 have hne:l[j].machine≠l[j+1].machine:=by simpa using hne
 rw [ZaD (by omega)] at hr
 rcases Zao.1 hr with hr | hr
 · have:=(h.before (show j<l.length by omega) r hr).1
   omega
 · rw [Zat.1 hr] at e; exact hne e
theorem M6 {r:Aa} (h:A2 r=true):1≤r.seq∧r.seq≤9999:=by
 unfold A2 at h
 simp only [Zan,Bx] at h
 exact h.2.1
theorem PV {l:List Aa} (h:∀ r∈l,A2 r=true) (m:Int):0≤(DI l m).seq∧(DI l m).seq≤9999:=by
 unfold DI
 cases h2:L9 l m with
 | none=>exact⟨by simp,by simp⟩
 | some r=>have:=M6 (h r (Iw h2).1); exact⟨by simp; omega,by simp; omega⟩
theorem Abe (s:Ey) (x2:Bc) (full:List Aa) (hl:full.length≤1000):∀ (n i:Nat)(out:Bc),full.length-i<n→i≤full.length→Bq n s x2 out full (full.length:Int) (i:Int)=some (s,(x2,(Afz out (full.drop i),((),((),((),()))))))
 | 0,_,_,h,_=>absurd h (Zal _)
 | n+1,i,out,h,hi=>by
  rw [Bq]
  by_cases hx:i<full.length
  · have hd:full.drop i=full[i]::full.drop (i+1):=Zai hx
    rw [show decide ((i:Int)<(full.length:Int))=true by simp; omega,Zab,AO hx,Zaa,wN i (by omega),hd,Afz,Abe s x2 full hl n (i+1) _ (by omega) (by omega),Abe s x2 full hl n (i+1) _ (by omega) (by omega)]
    cases decide (full[i].kind.n=0) <;> rfl
  · have hd:full.drop i=[]:=by simp; omega
    rw [show decide ((i:Int)<(full.length:Int))=false by simp; omega,hd]; rfl
theorem Af0 {n:Nat} {fr v:Aa} {bt:List Aa} (hl:bt.length≤1000) (hn:bt.length<n) (h1:0≤fr.seq∧fr.seq≤9999) (h2:1≤v.seq∧v.seq≤9999):Bu n (Ey.mk fr v bt)=some (Afz (Ah0 fr v) bt,(SJ (Afz (Ah0 fr v) bt) (v.seq-fr.seq-1-(bt.length:Int)),())):=by
 unfold Bu
 have h:=Abe (Ey.mk fr v bt) (Bc.mk 0 0 0 0 0) bt hl n 0 (Ah0 fr v) (by omega) (by omega)
 rw [show((0:Nat):Int)=0 from rfl,Zar] at h
 unfold Ah0 at h ⊢
 simp only
 rw [h,Zaa]
 simp only
 rw [BG (x:=v.seq-fr.seq) (by omega) (by omega),BG (x:=v.seq-fr.seq-1) (by omega) (by omega),BG (x:=v.seq-fr.seq-1-(bt.length:Int)) (by omega) (by omega)]
 generalize Afz _ bt=K
 unfold SJ
 cases decide (0≤K.sales) with
 | false=>rfl
 | true =>
  cases decide (K.sales≤v.seq-fr.seq-1-(bt.length:Int)) with
  | false=>rfl
  | true =>
   cases decide (0≤K.coins) with
   | false=>rfl
   | true=>rfl
def Ad2 {X1 X2 X3 X4 X5 Z1 Z2 Z3 Z4 Z5:Type} (x:(((X1×(X2×((List Bc×X3)×X4)))×X5) ⊕ ((((List Bc×Z1)×((Int×Z2)×(Z3×Z4)))×Z5)))):List Bc×Int:=Sum.elim (fun v=>(v.fst.snd.snd.fst.fst,0)) (fun v=>(v.fst.fst.fst,v.fst.snd.fst.fst)) x
def SM (o:Option (List Bc)):List Bc×Int:=match o with
 | some o=>(o,0)
 | none=>([],9)
theorem SN {full:List Aa} (hf:SL full):∀ (n i:Nat)(y1:List Bc)(y2:Int)(y3:List Bc)(s1 s2 s3:Int)(s4:IK .u8)(s5 s6 s7 s8 s9:Int)(s10:IK .u8)(s11 s12:Int)(s13:List Aa),1100+(full.length-i)<n→i≤full.length→y3.length≤i →
  (∀ (j:Nat)(hj:j<full.length),i=j+1→Aa.mk s1 s2 s3 s4 s5 s6=DI (full.take i) full[j].machine∧s13=I8 (full.take i) full[j].machine) →
  ∃ x,Av n y1 y2 y3 full s1 s2 s3 s4 s5 s6 s7 s8 s9 s10 s11 s12 s13 full (full.length:Int) (i:Int)=some x∧Ad2 x=SM (GC (full.take i) y3 (full.drop i))
 | 0,_,_,_,_,_,_,_,_,_,_,_,_,_,_,_,_,_,h,_,_,_=>absurd h (Zal _)
 | n+1,i,y1,y2,y3,s1,s2,s3,s4,s5,s6,s7,s8,s9,s10,s11,s12,s13,h,hi,hy,hinv=>by
  have hlen:=hf.len
  rw [Av]
  by_cases hx:i<full.length
  · have hd:full.drop i=full[i]::full.drop (i+1):=Zai hx
    have ht:full.take (i+1)=full.take i++[full[i]]:=ZaD hx
    have hbef:=hf.before hx
    have hsq:=M6 (hf.right _ (Zav hx))
    have hb1:∀ r∈full.take i,r.machine=full[i].machine→r.seq<full[i].seq:=fun r hr=>(hbef r hr).2
    have htl:(full.take i).length≤60:=by rw [ZaK]; omega
    have hrt:∀ r∈full.take i,A2 r=true:=fun r hr=>hf.right r (List.mem_of_mem_take hr)
    have hbl:(I8 (full.take i) full[i].machine).length≤60:=ZaM (Zbf _ _) htl
    have hlr:=PV hrt full[i].machine
    have ih:=fun y3 s1 s2 s3 s4 s5 s6 s7 s8 s9 s10 s11 s12 s13 hy hinv=>SN hf n (i+1) y1 y2 y3 s1 s2 s3 s4 s5 s6 s7 s8 s9 s10 s11 s12 s13 (by omega) (by omega) hy hinv
    have happ:∀ k:Bc,app y3 [k]=some (y3++[k]):=fun k=>A1 (by simp; omega)
    rw [show decide ((i:Int)<(full.length:Int))=true by simp; omega,Zab,AO hx,Zaa,wN i (by omega),hd]
    rw [ht] at ih
    simp only [GC]
    have close:∀ (s7 s8 s9:Int)(s10:IK .u8)(s11 s12:Int),(full[i].kind.n != 2)=false→∃ x,(bif decide ((UC (full.take i) full[i]).sales>0) then Av n y1 y2 (y3++[UC (full.take i) full[i]]) full full[i].machine full[i].seq full[i].minute full[i].kind full[i].a full[i].b s7 s8 s9 s10 s11 s12 [] full (full.length:Int) ((i+1:Nat):Int) else Av n y1 y2 y3 full full[i].machine full[i].seq full[i].minute full[i].kind full[i].a full[i].b s7 s8 s9 s10 s11 s12 [] full (full.length:Int) ((i+1:Nat):Int))=some x∧Ad2 x=SM (GC (full.take i++[full[i]]) (bif decide ((UC (full.take i) full[i]).sales>0) then y3++[UC (full.take i) full[i]] else y3) (full.drop (i+1))):=by
     intro s7 s8 s9 s10 s11 s12 hk
     have hc:∀ (j:Nat)(hj:j<full.length),i+1=j+1→Aa.mk full[i].machine full[i].seq full[i].minute full[i].kind full[i].a full[i].b=DI (full.take i++[full[i]]) full[j].machine∧[]=I8 (full.take i++[full[i]]) full[j].machine:=fun j hj e=>by
      have e:i=j:=by omega
      subst e
      exact⟨(SK hk).symm,(Abd hk hb1).symm⟩
     cases decide ((UC (full.take i) full[i]).sales>0) with
     | true=>exact ih _ _ _ _ _ _ _ _ _ _ _ _ _ _ (by simp; omega) hc
     | false=>exact ih _ _ _ _ _ _ _ _ _ _ _ _ _ _ (by omega) hc
    have keep:(full[i].kind.n != 2)=true→∀ (s1 s2 s3:Int)(s4:IK .u8)(s5 s6 s7 s8 s9:Int)(s10:IK .u8)(s11 s12:Int)(s13:List Aa),Aa.mk s1 s2 s3 s4 s5 s6=DI (full.take i) full[i].machine→s13=I8 (full.take i) full[i].machine→∃ x,Av n y1 y2 y3 full s1 s2 s3 s4 s5 s6 s7 s8 s9 s10 s11 s12 (s13++[full[i]]) full (full.length:Int) ((i+1:Nat):Int)=some x∧Ad2 x=SM (GC (full.take i++[full[i]]) y3 (full.drop (i+1))):=by
     intro hk s1 s2 s3 s4 s5 s6 s7 s8 s9 s10 s11 s12 s13 e1 e2
     refine ih _ _ _ _ _ _ _ _ _ _ _ _ _ _ (by omega) fun j hj e=>?_
     have e:i=j:=by omega
     subst e
     rw [VJ hk,Ad1 hk hb1 (by omega),e2]
     exact⟨e1,rfl⟩
    have fresh:(∀ r∈full.take i,r.machine≠full[i].machine)→∃ x,(bif full[i].kind.n != 2 then Av n y1 y2 y3 full full[i].machine 0 0 (IK.mk 0) 0 0 0 0 0 (IK.mk 0) 0 0 ([].append [full[i]]) full (full.length:Int) ((i+1:Nat):Int) else(Bu n (Ey.mk (Aa.mk full[i].machine 0 0 (IK.mk 0) 0 0) full[i] [])).bind fun v2=>bif !v2.snd.fst then(some (.inr ((([],()),((9,()),((y3,()),()))),((),((),((),((full,()),((full[i].machine,(0,(0,(IK.mk 0,(0,(0,(full[i].machine,(full[i].seq,(full[i].minute,(full[i].kind,(full[i].a,(full[i].b,([],()))))))))))))),())))))))) else bif decide (v2.fst.sales>0) then((app y3 [v2.fst]).bind fun v3=>Av n y1 y2 v3 full full[i].machine full[i].seq full[i].minute full[i].kind full[i].a full[i].b 0 0 0 (IK.mk 0) 0 0 [] full (full.length:Int) ((i+1:Nat):Int)) else Av n y1 y2 y3 full full[i].machine full[i].seq full[i].minute full[i].kind full[i].a full[i].b 0 0 0 (IK.mk 0) 0 0 [] full (full.length:Int) ((i+1:Nat):Int))=some x∧Ad2 x=SM (bif full[i].kind.n != 2 then GC (full.take i++[full[i]]) y3 (full.drop (i+1)) else bif SJ (UC (full.take i) full[i]) (La (full.take i) full[i]) then GC (full.take i++[full[i]]) (bif decide ((UC (full.take i) full[i]).sales>0) then y3++[UC (full.take i) full[i]] else y3) (full.drop (i+1)) else none):=by
     intro hfr
     have e1:Afz (Ah0 (Aa.mk full[i].machine 0 0 (IK.mk 0) 0 0) full[i]) []=UC (full.take i) full[i]:=by unfold UC; rw [N3 hfr,N4 hfr]
     have e2:full[i].seq-(Aa.mk full[i].machine 0 0 (IK.mk 0) 0 0).seq-1-((([]:List Aa).length:Nat):Int)=La (full.take i) full[i]:=by unfold La; rw [N3 hfr,N4 hfr]
     rw [Af0 (by simp) (by simp; omega) (by simp) hsq,e1,e2]
     cases hk:full[i].kind.n != 2 with
     | true =>
      simp only [Zab]
      exact keep hk _ _ _ _ _ _ _ _ _ _ _ _ [] (N3 hfr).symm (N4 hfr).symm
     | false =>
      simp only [Zad,Zaa,happ]
      cases SJ (UC (full.take i) full[i]) (La (full.take i) full[i]) with
      | false=>exact⟨_,rfl,rfl⟩
      | true =>
       simp only [ZaC,Zad,Zab]
       exact close _ _ _ _ _ _ hk
    by_cases h0:i=0
    · have hfr:∀ r∈full.take i,r.machine≠full[i].machine:=by subst h0; simp
      rw [Zaf (show(i:Int)=0 by omega)]
      simp only [ZaC,Zad]
      exact fresh hfr
    · obtain⟨j,rfl⟩:∃ j,i=j+1:=⟨i-1,by omega⟩
      have hj:IntKind.i64.wrap (((j+1:Nat):Int)-1)=(j:Int):=by rw [BG (by omega) (by omega)]; omega
      rw [Zae (show ¬ (((j+1:Nat):Int)=0) by omega),hj,AO (show j<full.length by omega)]
      simp only [Za7,Zab,Zaa]
      cases hm:full[j].machine != full[j+1].machine with
      | true =>
       simp only [Zab]
       exact fresh (hf.fresh hx hm)
      | false =>
       have hm:full[j].machine=full[j+1].machine:=by simpa using hm
       obtain⟨q1,q2⟩:=hinv j (by omega) rfl
       rw [hm] at q1 q2
       have e1:Afz (Ah0 (DI (full.take (j+1)) full[j+1].machine) full[j+1]) (I8 (full.take (j+1)) full[j+1].machine)=UC (full.take (j+1)) full[j+1]:=rfl
       have e2:full[j+1].seq-(DI (full.take (j+1)) full[j+1].machine).seq-1-(((I8 (full.take (j+1)) full[j+1].machine).length:Nat):Int)=La (full.take (j+1)) full[j+1]:=rfl
       simp only [Zad]
       cases hk:full[j+1].kind.n != 2 with
       | true =>
        simp only [Zab]
        rw [A1 (by rw [q2]; simp; omega),Zaa]
        exact keep hk _ _ _ _ _ _ _ _ _ _ _ _ s13 q1 q2
       | false =>
        simp only [Zad]
        rw [q1,q2,Af0 (by omega) (by omega) hlr hsq,e1,e2]
        simp only [Zaa,happ]
        cases SJ (UC (full.take (j+1)) full[j+1]) (La (full.take (j+1)) full[j+1]) with
        | false=>exact⟨_,rfl,rfl⟩
        | true =>
         simp only [ZaC,Zad,Zab]
         exact close _ _ _ _ _ _ hk
  · have hd:full.drop i=[]:=by simp; omega
    rw [show decide ((i:Int)<(full.length:Int))=false by simp; omega,hd]
    exact⟨_,rfl,rfl⟩
theorem SO {l:List Aa} {k:Nat} (hk:k<l.length) (hl:l.length≤1000) (x4:Aa):∀ (n i:Nat),i<n→i≤l.length→Da n l (k:Int) x4 ((i:Int)-1)=some (match L9 (l.take i) l[k].machine with | some r=>.inr (r,((),())) | none=>.inl (x4,(l,((k:Int),((),())))))
 | 0,_,h,_=>absurd h (Zal _)
 | n+1,0,_,_=>by
  rw [Da]; rfl
 | n+1,i+1,h,hi=>by
  have hx:i<l.length:=by omega
  have e:((i+1:Nat):Int)-1=(i:Int):=by omega
  rw [Da,e,Zaf (show(i:Int)≥0 by omega),Zab,AO hx,Zaa,AO hk]
  simp only [Zaa]
  rw [BG (x:=(i:Int)-1) (by omega) (by omega),SO hk hl x4 n i (by omega) (by omega),ZaD hx,N2]
  by_cases c1:l[i].machine=l[k].machine
  · rw [Zaf c1]
    by_cases c2:l[i].kind.n=2
    · rw [Zaf c2]; rfl
    · rw [Zae c2]; rfl
  · rw [Zae c1]; rfl
theorem SP {n:Nat} {l:List Aa} {k:Nat} (hk:k<l.length) (hl:l.length≤1000) (hn:1000<n):HI n l (k:Int)=some (DI (l.take k) l[k].machine,()):=by
 unfold HI DI
 rw [BG (x:=(k:Int)-1) (by omega) (by omega),SO hk hl _ n k (by omega) (by omega),Zaa]
 cases L9 (l.take k) l[k].machine with
 | none =>
  simp only [Za3,AO hk,Zaa]
  rfl
 | some r=>rfl
def AjB (fr:Aa) (m:Int) (l:List Aa):List Aa:=l.filter fun v=>decide (v.machine=m) && decide (v.seq>fr.seq)
theorem N5 {l:List Aa} {k:Nat} (hk:k<l.length) (hl:l.length≤1000) (x4:Bc) (fr:Aa) (m:Int):∀ (n i:Nat)(out:Bc),k-i<n→i≤k→out.machine=m→BB n l (k:Int) x4 fr out (i:Int)=some (x4,(fr,(Afz out (AjB fr m ((l.take k).drop i)),((),((),())))))
 | 0,_,_,h,_,_=>absurd h (Zal _)
 | n+1,i,out,h,hi,hm=>by
  rw [BB]
  by_cases hx:i<k
  · have hd:=M4 (l:=l) (i:=k) (by omega) hx
    rw [Zaf (show(i:Int)<(k:Int) by omega),Zab,AO (show i<l.length by omega),Zaa,wN i (by omega),hd,hm,N5 hk hl x4 fr m n (i+1) out (by omega) (by omega) hm,N5 hk hl x4 fr m n (i+1) (Bc.mk m out.fr out.to_ (IntKind.i64.wrap (out.sales-1)) (IntKind.i64.wrap (out.coins-l[i].b))) (by omega) (by omega) rfl]
    unfold AjB
    by_cases c1:l[i].machine=m
    · rw [Zaf c1]
      by_cases c2:l[i].seq>fr.seq
      · rw [Zaf c2,ZaZ (by rw [Zan,decide_eq_true_eq,decide_eq_true_eq]; exact⟨c1,c2⟩)]
        rw [Afz]
        cases decide (l[i].kind.n=0) with
        | true=>simp only [Zab,hm]
        | false=>rfl
      · rw [Zae c2,ZaU (by rw [Zan,decide_eq_true_eq,decide_eq_true_eq]; exact fun h=>c2 h.2)]
        rfl
    · rw [Zae c1,ZaU (by rw [Zan,decide_eq_true_eq]; exact fun h=>c1 h.1)]
      rfl
  · have hd:(l.take k).drop i=[]:=by simp; omega
    rw [Zae (show ¬ (i:Int)<(k:Int) by omega),hd]; rfl
theorem WR {n:Nat} {l:List Aa} {k:Nat} (hk:k<l.length) (hl:l.length≤1000) (hn:1000<n):H8 n l (k:Int)=some (UC (l.take k) l[k],()):=by
 unfold H8
 have h:=N5 hk hl (Bc.mk 0 0 0 0 0) (DI (l.take k) l[k].machine) l[k].machine n 0 (Ah0 (DI (l.take k) l[k].machine) l[k]) (by omega) (by omega) rfl
 rw [show((0:Nat):Int)=0 from rfl,Zar] at h
 rw [SP hk hl hn,Zaa,AO hk]
 simp only [Zaa]
 unfold Ah0 at h
 rw [h]
 rfl
theorem N6 {l:List Aa} {k:Nat} (hk:k<l.length) (hl:l.length≤1000) (fr:Aa):∀ (n i:Nat)(c:Int),k-i<n→i≤k→-20000-(i:Int)≤c∧c≤20000→Db n l (k:Int) fr c (i:Int)=some (fr,(c-((AjB fr fr.machine ((l.take k).drop i)).length:Int),()))
 | 0,_,_,h,_,_=>absurd h (Zal _)
 | n+1,i,c,h,hi,hc=>by
  rw [Db]
  by_cases hx:i<k
  · have hd:=M4 (l:=l) (i:=k) (by omega) hx
    rw [Zaf (show(i:Int)<(k:Int) by omega),Zab,AO (show i<l.length by omega),Zaa,Zaa,wN i (by omega),hd,BG (x:=c-1) (by omega) (by omega),N6 hk hl fr n (i+1) (c-1) (by omega) (by omega) (by omega),N6 hk hl fr n (i+1) c (by omega) (by omega) (by omega)]
    unfold AjB
    by_cases c1:l[i].machine=fr.machine
    · rw [Zaf c1]
      by_cases c2:l[i].seq>fr.seq
      · rw [Zaf c2,ZaZ (by rw [Zan,decide_eq_true_eq,decide_eq_true_eq]; exact⟨c1,c2⟩),Zau]
        simp only [Zab]
        congr 3
        omega
      · rw [Zae c2,ZaU (by rw [Zan,decide_eq_true_eq,decide_eq_true_eq]; exact fun h=>c2 h.2)]
        rfl
    · rw [Zae c1,ZaU (by rw [Zan,decide_eq_true_eq]; exact fun h=>c1 h.1)]
      rfl
  · have hd:(l.take k).drop i=[]:=by simp; omega
    rw [Zae (show ¬ (i:Int)<(k:Int) by omega),hd]
    simp [AjB]
theorem Abf {n:Nat} {l:List Aa} (hr:∀ r∈l,A2 r=true) {k:Nat} (hk:k<l.length) (hl:l.length≤1000) (hn:1000<n):Jt n l (k:Int)=some (La (l.take k) l[k],()):=by
 have hs:=M6 (hr _ (Zav hk))
 have hlr:=PV (l:=l.take k) (fun r h=>hr r (List.mem_of_mem_take h)) l[k].machine
 unfold Jt
 rw [SP hk hl hn,Zaa,AO hk,Zaa]
 simp only
 rw [BG (x:=l[k].seq-_) (by omega) (by omega),BG (x:=l[k].seq-_-1) (by omega) (by omega)]
 have h:=N6 hk hl (DI (l.take k) l[k].machine) n 0 (l[k].seq-(DI (l.take k) l[k].machine).seq-1) (by omega) (by omega) (by omega)
 rw [show((0:Nat):Int)=0 from rfl,Zar,UT] at h
 rw [h]
 rfl
theorem QQ {full:List Aa} (hf:SL full):∀ (n i:Nat)(out:List Bc),1100+(full.length-i)<n→i≤full.length→out.length≤i→BS n full out (i:Int)=some (match GC (full.take i) out (full.drop i) with | some o=>.inl (o,()) | none=>.inr ([],(false,())))
 | 0,_,_,h,_,_=>absurd h (Zal _)
 | n+1,i,out,h,hi,ho=>by
  have hlen:=hf.len
  rw [BS]
  by_cases hx:i<full.length
  · have hd:full.drop i=full[i]::full.drop (i+1):=Zai hx
    have ht:full.take (i+1)=full.take i++[full[i]]:=ZaD hx
    have ih:=fun out ho=>QQ hf n (i+1) out (by omega) (by omega) ho
    rw [ht] at ih
    rw [show decide ((i:Int)<(full.length:Int))=true by simp; omega,Zab,AO hx,Zaa,wN i (by omega),hd]
    simp only [GC]
    cases hk:full[i].kind.n != 2 with
    | true =>
     simp only [Zab]
     exact ih out (by omega)
    | false =>
     simp only [Zad]
     rw [WR hx (by omega) (by omega),Zaa,Abf hf.right hx (by omega) (by omega),Zaa]
     simp only
     rw [WL,WL,A1 (by simp; omega)]
     simp only [Zaa]
     generalize UC (full.take i) full[i]=K at *
     generalize La (full.take i) full[i]=R at *
     have hok:SJ K R=(BF K.sales 0 R && BF K.coins 0 (IntKind.i64.wrap (10000*K.sales))):=by
      unfold SJ BF
      rw [Bool.and_assoc]
     rw [hok]
     cases h1:BF K.sales 0 R with
     | false=>rfl
     | true =>
      cases h2:BF K.coins 0 (IntKind.i64.wrap (10000*K.sales)) with
      | false=>rfl
      | true =>
       simp only [ZaC,Za7,Zab,Zad,Zb0]
       by_cases c1:K.sales>0
       · rw [Zaf c1]
         simp only [ZaC,Zad,Zab]
         exact ih _ (by simp; omega)
       · rw [Bx] at h1 h2
         have hz:K.sales=0:=by omega
         have hw:IntKind.i64.wrap (10000*K.sales)=0:=by rw [hz]; rfl
         have c2 : ¬ K.coins>0:=by omega
         rw [Zae c1,Zae c2]
         simp only [Za7,Zab,Zad]
         exact ih _ (by omega)
  · have hd:full.drop i=[]:=by simp; omega
    rw [show decide ((i:Int)<(full.length:Int))=false by simp; omega,hd]
    rfl
theorem PW:∀ (l pre:List Aa)(out o:List Bc),GC pre out l=some o→o.length≤out.length+l.length
 | [],_,_,_,h=>by unfold GC at h; cases h; simp
 | v::l,pre,out,o,h=>by
  unfold GC at h
  rw [Zau]
  cases hk:v.kind.n != 2 with
  | true =>
   rw [hk,Zab] at h
   have:=PW l _ _ _ h; omega
  | false =>
   rw [hk,Zad] at h
   cases ho:SJ (UC pre v) (La pre v) with
   | false=>rw [ho,Zad] at h; cases h
   | true =>
    rw [ho,Zab] at h
    have:=PW l _ _ _ h
    cases hs:decide ((UC pre v).sales>0) with
    | true=>rw [hs,Zab,Zaj,Zau,ZaV] at this; omega
    | false=>rw [hs,Zad] at this; omega
def YL (k:Bc):Prop:=0≤k.sales∧k.sales≤10000∧0≤k.coins∧k.coins≤100000000
theorem PX:∀ (l pre:List Aa)(out o:List Bc),GC pre out l=some o→(∀ r∈pre,A2 r=true)→(∀ r∈l,A2 r=true)→(∀ k∈out,YL k)→∀ k∈o,YL k
 | [],_,_,_,h,_,_,ho=>by unfold GC at h; cases h; exact ho
 | v::l,pre,out,o,h,h1,h2,ho=>by
  unfold GC at h
  have h1':∀ r∈pre++[v],A2 r=true:=fun r hr=>by
   rcases Zao.1 hr with hr | hr
   · exact h1 r hr
   · rw [Zat.1 hr]; exact h2 v (by simp)
  have h2':∀ r∈l,A2 r=true:=fun r hr=>h2 r (by simp [hr])
  cases hk:v.kind.n != 2 with
  | true =>
   rw [hk,Zab] at h
   exact PX l _ _ _ h h1' h2' ho
  | false =>
   rw [hk,Zad] at h
   cases hok:SJ (UC pre v) (La pre v) with
   | false=>rw [hok,Zad] at h; cases h
   | true =>
    rw [hok,Zab] at h
    refine PX l _ _ _ h h1' h2' fun k hk2=>?_
    cases hs:decide ((UC pre v).sales>0) with
    | false=>rw [hs,Zad] at hk2; exact ho k hk2
    | true =>
     rw [hs,Zab] at hk2
     rcases Zao.1 hk2 with hk2 | hk2
     · exact ho k hk2
     · rw [Zat.1 hk2]
       have hq:=M6 (h2 v (by simp))
       have hl:=PV h1 v.machine
       unfold SJ La at hok
       simp only [Zan,decide_eq_true_eq] at hok
       obtain⟨q1,q2,q3,q4⟩:=hok
       rw [BG (by omega) (by omega)] at q4
       exact⟨q1,by omega,q3,by omega⟩
theorem Acl:∀ (l:List Bc),(∀ k∈l,YL k)→∀ (j:Nat)(a b:Int),j+l.length≤2000→0≤a∧a≤10000*(j:Int)→0≤b∧b≤100000000*(j:Int)→0≤(HP l a b).1∧(HP l a b).1≤1000000000000000000∧0≤(HP l a b).2∧(HP l a b).2≤1000000000000000000
 | [],_,j,a,b,hj,ha,hb=>by
  simp only [ZaV] at hj
  exact⟨ha.1,by show a≤_; omega,hb.1,by show b≤_; omega⟩
 | k::l,h,j,a,b,hj,ha,hb=>by
  obtain⟨k1,k2,k3,k4⟩:=h k (by simp)
  rw [Zau] at hj
  unfold HP
  rw [BG (by omega) (by omega),BG (by omega) (by omega)]
  exact Acl l (fun x hx=>h x (by simp [hx])) (j+1) _ _ (by omega) (by omega) (by omega)
theorem Abg {n:Nat} {l:List Aa} (h:HW l) (hk:∀ r∈l,Lz r) (hn:1300<n):∃ a e,D9 n l=some (a,(e,()))∧a.length≤1000∧(∀ k∈a,YL k)∧GX n (Eo HL l)=some (a,(decide (e=0),())):=by
 have hl:=h.len
 have hp:=FB (le:=HL) l
 have hsl:(Eo HL l).length≤60:=by rw [JG]; exact hl
 have hf:SL (Eo HL l):=⟨WJ l,(List.Perm.pairwise_iff (fun {a b} (h:BH a≠BH b)=>h.symm) hp).2 h.dist,fun r hr=>h.right r (hp.mem_iff.1 hr),hsl⟩
 have key:EH n [l]=some (Eo HL l,(0,())):=by
  rw [Vq (fun x hx r hr=>by rw [Zat.1 hx] at hr; exact hk r hr) (by simp) (fun x hx=>by rw [Zat.1 hx]; omega) (by simp; omega),AaJ h]
 obtain⟨x,e1,e2⟩:=SN hf n 0 [] 0 [] 0 0 0 (IK.mk 0) 0 0 0 0 0 (IK.mk 0) 0 0 [] (by omega) (by omega) (by simp) (fun j _ e=>by omega)
 have e3:=QQ hf n 0 [] (by omega) (by omega) (by simp)
 rw [show((0:Nat):Int)=0 from rfl,Zar,List.take_zero] at e3
 rw [show((0:Nat):Int)=0 from rfl] at e1
 rw [Zar,List.take_zero] at e2
 have hrun:D9 n l=some ((Ad2 x).1,((Ad2 x).2,())):=by
  unfold D9
  rw [key,Zaa]
  simp only
  rw [show((0:Int) != 0)=false from rfl,Zad,e1,Zaa]
  cases x <;> rfl
 refine⟨_,_,hrun,?_,?_,?_⟩
 · rw [e2]
   cases hL:GC [] [] (Eo HL l) with
   | none=>simp [SM]
   | some o =>
    have:=PW _ _ _ _ hL
    simp only [SM]
    simp only [ZaV] at this
    omega
 · rw [e2]
   cases hL:GC [] [] (Eo HL l) with
   | none=>simp [SM]
   | some o=>exact PX _ _ _ _ hL (by simp) hf.right (by simp)
 · unfold GX
   rw [e3,Zaa,e2]
   cases GC [] [] (Eo HL l) <;> rfl
theorem Akt {n:Nat} {o:List UInt8} {w w1:ByteArray} {x:Int} {β:Type} {K:ByteArray→Option β} (ho:o.length≤1000000) (hw:w1.data.toList=w.data.toList++[32]) (hl:w1.data.toList.length≤30) (h0:0≤x) (h1:x≤1000000000000000000) (hn:20<n) :
  ((An (Ep o) w1).bind fun v2=>(AB n x).bind fun v4=>(An v2 v4.fst).bind fun v5=>(An v5 (B [10])).bind K)=K (Ep (o++Fi [w,B0 x])):=by
 have i1:=DZ x
 have l5:(B [10]).data.toList.length=1:=rfl
 rw [sa (by omega),M5 h0 h1 hn,Zaa]
 simp only
 rw [sa (by simp only [Zaj]; omega),sa (by simp only [Zaj]; omega),Aio,hw]
 simp only [Za6]
 rfl
theorem AjU {n:Nat} {o:List UInt8} {w c w1 w2:ByteArray} {x y:Int} {β:Type} {K:ByteArray→Option β} (ho:o.length≤1000000) (hw:w1.data.toList=w.data.toList++[32]) (hl:w1.data.toList.length≤30) (hw2:w2.data.toList=32::(c.data.toList++[32])) (hl2:w2.data.toList.length≤30) (h0:0≤x) (h1:x≤1000000000000000000) (h2:0≤y) (h3:y≤1000000000000000000) (hn:20<n) :
  ((An (Ep o) w1).bind fun v2=>(AB n x).bind fun v4=>(An v2 v4.fst).bind fun v5=>(An v5 w2).bind fun v6=>(AB n y).bind fun v7=>(An v6 v7.fst).bind fun v8=>(An v8 (B [10])).bind K)=K (Ep (o++Fi [w,B0 x,c,B0 y])):=by
 have i1:=DZ x
 have i2:=DZ y
 have l5:(B [10]).data.toList.length=1:=rfl
 rw [sa (by omega),M5 h0 h1 hn,Zaa]
 simp only
 rw [sa (by simp only [Zaj]; omega),sa (by simp only [Zaj]; omega),M5 h2 h3 hn,Zaa]
 simp only
 rw [sa (by simp only [Zaj]; omega),sa (by simp only [Zaj]; omega),AjA,hw,hw2]
 simp only [Za6,ZaQ]
 rfl
theorem VK {s:Ae} (hg:Cs s) (hm:HV s) (lines:List ByteArray) (errs:List Int):∀ (n i:Nat)(out:List UInt8),1400+(100-i)<n→i≤100→out.length≤311*i→El n lines s errs (Ep out) (i:Int)=some (s,(lines,((),(errs,(Ep (out++N1 s i (100-i)),())))))
 | 0,_,_,h,_,_=>absurd h (Zal _)
 | n+1,i,out,h,hi,ho=>by
  rw [El]
  by_cases hx:i<100
  · obtain⟨k,hk⟩:∃ k,100-i=k+1:=⟨100-i-1,by omega⟩
    have hk2:100-(i+1)=k:=by omega
    have hbl:=OG s (i:Int)
    rw [Zaf (show(i:Int)≤99 by omega),Zab,AiJ hg hm (b:=(i:Int)) ⟨by omega,by omega⟩ (by omega),Zaa]
    simp only
    rw [My (by omega),Zaa,wN i (by omega),VK hg hm lines errs n (i+1) _ (by omega) (by omega) (by rw [Zaj]; omega),hk2,hk]
    simp only [N1,Za6]
  · have:i=100:=by omega
    subst this
    rw [show decide (((100:Nat):Int)≤99)=false from rfl]
    simp only [Zad,Nat.sub_self,N1,Zbh]
theorem PY (s:Ae) (o:ByteArray) (hr:∀ r∈s.records,A2 r=true) (hl:s.records.length≤1000):∀ (n i a b:Nat),s.records.length-i<n→i≤s.records.length→a≤i→b≤10000*i→Dd n s o (a:Int) (b:Int) (i:Int)=some (s,((),(o,((a:Int)+(Gk (s.records.drop i):Int),((b:Int)+FL (s.records.drop i),())))))
 | 0,_,_,_,h,_,_,_=>absurd h (Zal _)
 | n+1,i,a,b,h,hi,ha,hb=>by
  rw [Dd]
  by_cases hx:i<s.records.length
  · have hd:s.records.drop i=s.records[i]::s.records.drop (i+1):=Zai hx
    rw [show decide ((i:Int)<(s.records.length:Int))=true by simp; omega,Zab,AO hx,Zaa,Zaa,wN i (by omega),hd]
    unfold Gk FL
    by_cases h0:s.records[i].kind.n=0
    · obtain⟨b0,b1⟩:=WP (hr _ (Zav hx)) h0
      obtain⟨m,hm⟩:∃ m:Nat,s.records[i].b=m:=⟨s.records[i].b.toNat,by omega⟩
      rw [Zaf h0,Zab,wN a (by omega),hm,BG (x:=(b:Int)+(m:Int)) (by omega) (by omega),ZaZ (by simpa using h0)]
      have:=PY s o hr hl n (i+1) (a+1) (b+m) (by omega) (by omega) (by omega) (by omega)
      rw [show((b+m:Nat):Int)=(b:Int)+(m:Int) by omega] at this
      rw [this]
      unfold Gk
      simp only [Zab,Zau]
      rw [show((a+1:Nat):Int)+((((s.records.drop (i+1)).filter fun r=>decide (r.kind.n=0)).length:Nat):Int)=(a:Int)+(((((s.records.drop (i+1)).filter fun r=>decide (r.kind.n=0)).length+1:Nat)):Int) by omega,Int.add_assoc]
    · rw [Zae h0,Zad,ZaU (by simpa using h0),Zad,Zbv]
      exact PY s o hr hl n (i+1) a b (by omega) (by omega) (by omega) (by omega)
  · have hd:s.records.drop i=[]:=by simp; omega
    rw [show decide ((i:Int)<(s.records.length:Int))=false by simp; omega,hd]
    simp [Gk,FL]
theorem VL (s:Ae) (o:ByteArray) (can:Bool) (full:List Bc) (hl:full.length≤1000):∀ (n i:Nat)(a b:Int),full.length-i<n→i≤full.length→Em n s o a b full can (i:Int)=some (s,((),(o,((HP (full.drop i) a b).1,((HP (full.drop i) a b).2,(can,()))))))
 | 0,_,_,_,h,_=>absurd h (Zal _)
 | n+1,i,a,b,h,hi=>by
  rw [Em]
  by_cases hx:i<full.length
  · have hd:full.drop i=full[i]::full.drop (i+1):=Zai hx
    rw [show decide ((i:Int)<(full.length:Int))=true by simp; omega,Zab,AO hx,Zaa,Zaa,wN i (by omega),hd]
    unfold HP
    exact VL s o can full hl n (i+1) _ _ (by omega) (by omega)
  · have hd:full.drop i=[]:=by simp; omega
    rw [show decide ((i:Int)<(full.length:Int))=false by simp; omega,hd]
    rfl
theorem PZ (full:List Int) (hf:∀ x∈full,-1≤x) (hl:full.length≤1000):∀ (n i a:Nat),full.length-i<n→i≤full.length→a≤i→CK n full (a:Int) (i:Int)=some ((a:Int)+(Hq (full.drop i):Int),())
 | 0,_,_,h,_,_=>absurd h (Zal _)
 | n+1,i,a,h,hi,ha=>by
  rw [CK]
  by_cases hx:i<full.length
  · have hd:full.drop i=full[i]::full.drop (i+1):=Zai hx
    have hge:=hf _ (Zav hx)
    rw [show decide ((i:Int)<(full.length:Int))=true by simp; omega,Zab,AO hx,Zaa,wN i (by omega),hd]
    unfold Hq
    by_cases hb:full[i]≥0
    · have hb2:(full[i] != -1)=true:=by simp; omega
      rw [Zaf hb,Zab,wN a (by omega),ZaZ (p:=fun x=>x != -1) hb2,PZ full hf hl n (i+1) (a+1) (by omega) (by omega) (by omega)]
      unfold Hq
      rw [Zau,show((a+1:Nat):Int)+((((full.drop (i+1)).filter fun x=>x != -1).length:Nat):Int)=(a:Int)+(((((full.drop (i+1)).filter fun x=>x != -1).length+1:Nat)):Int) by omega]
    · have hb2:(full[i] != -1)=false:=by simp; omega
      rw [Zae hb,Zad,ZaU (p:=fun x=>x != -1) (by rw [hb2]; exact Bool.false_ne_true)]
      exact PZ full hf hl n (i+1) a (by omega) (by omega) (by omega)
  · have hd:full.drop i=[]:=by simp; omega
    rw [show decide ((i:Int)<(full.length:Int))=false by simp; omega,hd]
    simp [Hq]
theorem Ad3 {n:Nat} {l:List Int} (hf:∀ x∈l,-1≤x) (hl:l.length≤1000) (hn:1000<n):Ge n l=some ((Hq l:Int),()):=by
 unfold Ge
 have h:=PZ l hf hl n 0 0 (by omega) (by omega) (by omega)
 rw [show((0:Nat):Int)=0 from rfl,Zar,Zbv] at h
 rw [h]; rfl
set_option maxHeartbeats 1000000 in
theorem WS {n:Nat} {lines:List ByteArray} (hr:Jy lines=true) (hn:2500≤n) {a:List Bc} {e:Int} (ha:a.length≤1000) (hk:∀ k∈a,YL k) (hlk:GX n (Eo HL (A9 Aq lines).1.records)=some (a,(decide (e=0),()))) :
  Jx n lines=some (Ep (Ahz (A9 Aq lines).1 (Hi (A9 Aq lines).1.cards lines (A9 Aq lines).2 0).length a e),()):=by
 obtain⟨h1,h2⟩:=Km.1 hr
 have hg:=(Ho lines 0 Aq (Fh.less (by omega))).1
 have hm:=Ny lines Aq QI
 have hrec:=Kt lines Aq Jd
 have hlaw:=QK lines 0 Aq (Fh.less (by omega)) O9
 have hros:∀ x∈(A9 Aq lines).1.roster,-1≤x:=fun x hx=>((Hp.1 hlaw).2.1.2 x hx).1
 have hlate:=AaY (n:=n) h2 h1 (by omega)
 have hll:=PL (A9 Aq lines).1.cards lines (A9 Aq lines).2 0
 have hlog:=AiK (n:=n) hrec.dist (by have:=hrec.len; omega) (by omega)
 have hro:(A9 Aq lines).1.roster.length≤12:=by have:=hg.ros; have:=hg.duties; omega
 have hcov:=Ad3 (n:=n) hros (by omega) (by omega)
 unfold Jx
 rw [AaX (fun t ht=>ZaM (h2 t ht) (by decide)) (by omega) (by omega),Zaa]
 simp only
 generalize Hi (A9 Aq lines).1.cards lines (A9 Aq lines).2 0=L at *
 generalize (A9 Aq lines).2=errs at *
 generalize (A9 Aq lines).1=S at *
 have hlen:=hrec.len
 have hcb:=Kw S.records hrec.right
 have hl1:=VK hg hm lines errs n 0 [] (by omega) (by omega) (by simp)
 rw [show((0:Nat):Int)=0 from rfl,Zax,Nat.sub_zero] at hl1
 have h3:∀ o,Dd n S o 0 0 0=some (S,((),(o,((Gk S.records:Int),(FL S.records,()))))):=fun o=>by
  have h:=PY S o hrec.right (by omega) n 0 0 0 (by omega) (by omega) (by omega) (by omega)
  rw [show((0:Nat):Int)=0 from rfl,Zar,Zbv,Zbv] at h
  exact h
 have h4:∀ o,Em n S o 0 0 a (decide (e=0)) 0=some (S,((),(o,((HP a 0 0).1,((HP a 0 0).2,(decide (e=0),())))))):=fun o=>VL S o (decide (e=0)) a ha n 0 0 0 (by omega) (by omega)
 have hsw:=Acl a hk 0 0 0 (by omega) (by omega) (by omega)
 have hsn:Gk S.records≤S.records.length:=Zbf _ _
 have hgn:Hq S.roster≤S.roster.length:=Zbf _ _
 have hbl:=SH S 100 0
 show Option.bind (El n lines S errs (Ep []) 0) _=_
 rw [hl1,Zaa]
 simp only [hlate,Zaa]
 refine(Akt (w:=B [108,97,116,101]) (by omega) rfl (by decide) (by omega) (by omega) (by omega)).trans ?_
 have l1:=EG (ws:=[B [108,97,116,101],B0 (L.length:Int)]) (by simp) (AjX (by decide) _)
 have l2:=EG (ws:=[B [115,97,108,101,115],B0 (Gk S.records:Int),B [99,111,105,110,115],B0 (FL S.records)]) (by simp) (Ain (by decide) (by decide) _ _)
 simp only [h3,Zaa]
 refine(AjU (w:=B [115,97,108,101,115]) (c:=B [99,111,105,110,115]) (by rw [Zaj]; omega) rfl (by decide) rfl (by decide) (by omega) (by omega) (by omega) (by omega) (by omega)).trans ?_
 simp only [hlog,hlk,h4,hcov,Zaa]
 unfold Ahz Afq
 cases he:decide (e=0) with
 | true =>
  simp only [Zab]
  have l3:=EG (ws:=[B [108,97,99,107],B0 (HP a 0 0).1,B [99,111,105,110,115],B0 (HP a 0 0).2]) (by simp) (Ain (by decide) (by decide) _ _)
  refine(AjU (w:=B [108,97,99,107]) (c:=B [99,111,105,110,115]) (by simp only [Zaj]; omega) rfl (by decide) rfl (by decide) (by omega) (by omega) (by omega) (by omega) (by omega)).trans ?_
  exact AjU (w:=B [100,117,116,105,101,115]) (c:=B [111,102]) (by simp only [Zaj]; omega) rfl (by decide) rfl (by decide) (by omega) (by omega) (by omega) (by omega) (by omega)
 | false =>
  simp only [Zad]
  have l3:=EG (ws:=[B [108,97,99,107],B [117,110,107,110,111,119,110]]) (by simp) (AiI (by decide) (by decide))
  have e3:Fi [B [108,97,99,107],B [117,110,107,110,111,119,110]]=(B [108,97,99,107,32,117,110,107,110,111,119,110,10]).data.toList:=by rw [Aio]; rfl
  rw [e3] at l3 ⊢
  rw [sa (by simp only [Zaj]; omega)]
  exact AjU (w:=B [100,117,116,105,101,115]) (c:=B [111,102]) (by simp only [Zaj]; omega) rfl (by decide) rfl (by decide) (by omega) (by omega) (by omega) (by omega) (by omega)
theorem YM {n:Nat} {lines:List ByteArray} (hn:lines.length+3000≤n) (hbig:lines.length≤4000000000000000000):E5 n lines=some (true,()):=by
 unfold E5
 obtain⟨b,hb,h52⟩:=AiH (n:=n) hbig (by omega)
 have hw:=AgW (show 60≤n by omega)
 rw [hb,Zaa]
 cases b with
 | false=>simp only [Za7,Zab]; rw [hw]; rfl
 | true =>
  have hl:=h52 rfl
  simp only [ZaC,Zad]
  rw [AgV (by omega),Zaa,Ae5 hbig (by omega)]
  cases hR:Jy lines with
  | false =>
   have hbad:En n lines=some (B [],(3,())):=by
    unfold En
    rw [XY (by omega) hbig,hR]; rfl
   rw [hbad,Zaa,Zaa]
   simp only [Za7,Zab,decide_true,YJ,hw,Zaa]
  | true =>
   obtain⟨h1,h2⟩:=Km.1 hR
   have hrec:=Kt lines Aq Jd
   have hgood:=(Ho lines 0 Aq (Fh.less (by omega))).1
   obtain⟨a,e,k1,k2,k3,k4⟩:=Abg (n:=n) hrec hgood.rk (by omega)
   rw [Ady hR (by omega) k1 k2,Zaa,Zaa]
   simp only [ZaC,Zad,decide_true,Zab,WS hR (show 2500≤n by omega) k2 k3 k4,Zaa,YJ,hw]
end Go.Proofs.YtkpgggfibljflaaGreatDoor
