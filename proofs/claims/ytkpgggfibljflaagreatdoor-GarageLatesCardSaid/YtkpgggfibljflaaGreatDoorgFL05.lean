/- The plain law. -/
import Derived.Test.YtkpgggfibljflaaGreatDoorgFL04
set_option linter.all false
set_option maxRecDepth 100000
namespace Go.Proofs.YtkpgggfibljflaaGreatDoor
open Go Go.RowKit Go.Proofs
def AzI:AP:=AP.mk 0 0 (Rg.mk 0 0) 0
abbrev AH (w:Ar) (i:Nat):AP:=w.duties.getD i AzI
def IN (w:Ar) (r:List Int) (k d:Int) (i:Nat):Bool:=decide (r.getD i (-1)=k) && decide ((AH w i).day=d)
def Cg (P:Nat→Bool):Nat→Nat→Option Nat
 | 0,_=>none
 | m+1,s=>bif P s then some s else Cg P m (s+1)
theorem IS {P:Nat→Bool}:∀ {m s:Nat},Cg P m s=none↔∀ j,s≤j→j<s+m→P j=false
 | 0,s=>⟨fun _ j h1 h2=>by omega,fun _=>rfl⟩
 | m+1,s=>by
  unfold Cg
  cases h:P s with
  | true =>
   simp only [Zab]
   constructor
   · intro hh; cases hh
   · intro hh; rw [hh s (by omega) (by omega)] at h; cases h
  | false =>
   rw [Zad,IS]
   constructor
   · intro hh j h1 h2
     by_cases e:j=s
     · rw [e]; exact h
     · exact hh j (by omega) (by omega)
   · intro hh j h1 h2
     exact hh j (by omega) (by omega)
theorem IT {P:Nat→Bool}:∀ {m s j:Nat},Cg P m s=some j→s≤j∧j<s+m∧P j=true∧∀ i,s≤i→i<j→P i=false
 | 0,s,j,h=>by cases h
 | m+1,s,j,h=>by
  unfold Cg at h
  cases hp:P s with
  | true=>rw [hp,Zab] at h; cases h; exact⟨by omega,by omega,hp,fun i h1 h2=>by omega⟩
  | false =>
   rw [hp,Zad] at h
   obtain⟨a,b,c,d⟩:=IT h
   refine⟨by omega,by omega,c,fun i h1 h2=>?_⟩
   by_cases e:i=s
   · rw [e]; exact hp
   · exact d i (by omega) h2
theorem Ah8 {P:Nat→Bool} {m s j:Nat} (h1:s≤j) (h2:j<s+m) (h3:P j=true) (h4:∀ i,s≤i→i<j→P i=false):Cg P m s=some j:=by
 cases h:Cg P m s with
 | none=>rw [IS.1 h j h1 h2] at h3; cases h3
 | some i =>
  obtain⟨a,b,c,d⟩:=IT h
  by_cases e:i<j
  · rw [h4 i a e] at c; cases c
  · by_cases e2:j<i
    · rw [d j h1 e2] at h3; cases h3
    · rw [show i=j by omega]
theorem AlQ {P:Nat→Bool} (i:Nat):Cg P (i+1) 0=match Cg P i 0 with
  | some j=>some j
  | none=>bif P i then some i else none:=by
 cases h:Cg P i 0 with
 | some j =>
  obtain⟨a,b,c,d⟩:=IT h
  exact Ah8 (by omega) (by omega) c d
 | none =>
  simp only
  cases hp:P i with
  | true=>exact Ah8 (by omega) (by omega) hp fun j h1 h2=>IS.1 h j h1 (by omega)
  | false =>
   exact IS.2 fun j h1 h2=>by
    by_cases e:j=i
    · rw [e]; exact hp
    · exact IS.1 h j h1 (by omega)
def AyI (w:Ar) (s:A1):Option Nat→A1
 | none=>s
 | some i=>ML s (AH w i) (AH w i).off.hi
def AbL (w:Ar) (r:List Int) (k:Nat):Nat→A1
 | 0=>(AW w).getD k OH
 | d+1=>AyI w (AbL w r k d) (Cg (IN w r (k:Int) (d:Int)) w.duties.length 0)
abbrev SW (w:Ar) (r:List Int) (k d i:Nat):A1:=AyI w (AbL w r k d) (Cg (IN w r (k:Int) (d:Int)) i 0)
def Afk (w:Ar) (r:List Int) (d j k:Nat):Prop:=(∀ i,i<j→IN w r (k:Int) (d:Int) i=false)∧Sj w (k:Int) (j:Int) (AH w j) (AbL w r k d)=[]
theorem Avb (s:A1) (x:AP) (e:Int):(ML s x e).day=x.day:=by
 unfold ML
 by_cases h:s.day=x.day
 · rw [Zaf h,Zab]; exact h
 · rw [Zae h,Zad]
   cases s.day != Ag7 (x.day-1) <;> rfl
theorem PC {w:Ar} {i:Nat} (h:i<w.duties.length):AH w i=w.duties[i]:=by simp [AH,List.getD,Zak h]
theorem AoM {w:Ar} {r:List Int} {k d i:Nat} (h:IN w r (k:Int) (d:Int) i=false):SW w r k d (i+1)=SW w r k d i:=by
 unfold SW
 rw [AlQ,h]
 cases Cg (IN w r (k:Int) (d:Int)) i 0 <;> rfl
theorem AmP {w:Ar} {r:List Int} (hro:E5 w r) (h6:w.drivers.length≤6) (d:Nat):∀ (m i:Nat)(st:List Ay×List A1),i+m=w.duties.length→st.1=[]→st.2.length=6→(∀ k:Nat,k<6→st.2.getD k OH=SW w r k d i)→((D7 w r (d:Int) i st (w.duties.drop i)).1=[]↔∀ j,i≤j→j<w.duties.length→(AH w j).day=(d:Int)→∀ k:Nat,r.getD j (-1)=(k:Int)→Afk w r d j k)∧((D7 w r (d:Int) i st (w.duties.drop i)).1=[]→(D7 w r (d:Int) i st (w.duties.drop i)).2.length=6∧∀ k:Nat,k<6→(D7 w r (d:Int) i st (w.duties.drop i)).2.getD k OH=SW w r k d w.duties.length)
 | 0,i,st,hi,h1,h2,h3=>by
  have hd:w.duties.drop i=[]:=by simp; omega
  rw [hd]
  simp only [D7]
  refine⟨⟨fun _ j a b=>by omega,fun _=>h1⟩,fun _=>⟨h2,?_⟩⟩
  rw [show w.duties.length=i by omega]; exact h3
 | m+1,i,st,hi,h1,h2,h3=>by
  have hx:i<w.duties.length:=by omega
  have hd:w.duties.drop i=w.duties[i]::w.duties.drop (i+1):=Zaj hx
  rw [hd]
  simp only [D7]
  rw [← PC hx]
  have same:DC w r (d:Int) st i (AH w i)=st→(∀ k:Nat,IN w r (k:Int) (d:Int) i=false)→((D7 w r (d:Int) (i+1) (DC w r (d:Int) st i (AH w i)) (w.duties.drop (i+1))).1=[]↔∀ j,i≤j→j<w.duties.length→(AH w j).day=(d:Int)→∀ k:Nat,r.getD j (-1)=(k:Int)→Afk w r d j k)∧((D7 w r (d:Int) (i+1) (DC w r (d:Int) st i (AH w i)) (w.duties.drop (i+1))).1=[]→(D7 w r (d:Int) (i+1) (DC w r (d:Int) st i (AH w i)) (w.duties.drop (i+1))).2.length=6∧∀ k:Nat,k<6→(D7 w r (d:Int) (i+1) (DC w r (d:Int) st i (AH w i)) (w.duties.drop (i+1))).2.getD k OH=SW w r k d w.duties.length):=fun e hP=>by
   rw [e]
   obtain⟨a,b⟩:=AmP hro h6 d m (i+1) st (by omega) h1 h2 (fun k hk=>by rw [AoM (hP k)]; exact h3 k hk)
   refine⟨a.trans ⟨fun h j q1 q2 q3 k q4=>?_,fun h j q1 q2 q3 k q4=>h j (by omega) q2 q3 k q4⟩,b⟩
   by_cases hj:j=i
   · subst hj
     have:=hP k
     unfold IN at this
     rw [q3,q4] at this
     simp at this
   · exact h j (by omega) q2 q3 k q4
  by_cases hday:(AH w i).day=(d:Int)
  · obtain⟨b0,b1⟩:=AbH hro i
    by_cases hn:r.getD i (-1)=-1
    · refine same ?_ fun k=>?_
      · unfold DC
        rw [Zaf hday,Zaf hn]; rfl
      · unfold IN
        rw [hn,Zae (show ¬ (-1:Int)=(k:Int) by omega)]; rfl
    · obtain⟨k0,hk0⟩:∃ k0:Nat,r.getD i (-1)=k0:=⟨(r.getD i (-1)).toNat,by omega⟩
      have hk6:k0<6:=by omega
      have hstep:DC w r (d:Int) st i (AH w i)=(st.1++Sj w (k0:Int) (i:Int) (AH w i) (SW w r k0 d i),st.2.set k0 (ML (SW w r k0 d i) (AH w i) (AH w i).off.hi)):=by
       unfold DC
       rw [Zaf hday,Zae hn,hk0]
       simp only [Zab,Zad]
       rw [show((k0:Int)).toNat=k0 from rfl,h3 k0 hk6]
      have hon:IN w r (k0:Int) (d:Int) i=true:=by
       unfold IN
       rw [hk0,hday]; simp
      rw [hstep,h1,Zau]
      by_cases hb:Sj w (k0:Int) (i:Int) (AH w i) (SW w r k0 d i)=[]
      · have hf:Cg (IN w r (k0:Int) (d:Int)) i 0=none:=by
         cases hf:Cg (IN w r (k0:Int) (d:Int)) i 0 with
         | none=>rfl
         | some j =>
          exfalso
          have h2r:=(Aip.1 hb).2.2.1
          unfold SW at h2r
          rw [hf] at h2r
          obtain⟨_,_,c,_⟩:=IT hf
          have hdj:(AH w j).day=(d:Int):=by
           unfold IN at c
           rw [Zap] at c
           simpa using c.2
          have:((AyI w (AbL w r k0 d) (some j)).day != (AH w i).day)=true:=h2r
          rw [show(AyI w (AbL w r k0 d) (some j)).day=(AH w j).day from Avb _ _ _,hdj,hday] at this
          simp at this
        have hcur:SW w r k0 d i=AbL w r k0 d:=by unfold SW; rw [hf]; rfl
        rw [hb]
        have hgood:Afk w r d i k0:=⟨fun j hj=>IS.1 hf j (by omega) (by omega),by rw [← hcur]; exact hb⟩
        obtain⟨a,b⟩:=AmP hro h6 d m (i+1) ([],st.2.set k0 (ML (SW w r k0 d i) (AH w i) (AH w i).off.hi)) (by omega) rfl (by simp [h2]) (fun k hk=>by
         show(st.2.set k0 _).getD k OH=_
         rw [AbG]
         by_cases hkk:k0=k
         · subst hkk
           rw [if_pos ⟨rfl,by omega⟩]
           rw [hcur]
           unfold SW
           rw [AlQ,hf,hon]; rfl
         · rw [if_neg fun h=>hkk h.1,h3 k hk]
           refine(AoM ?_).symm
           unfold IN
           rw [hk0,Zae (show ¬ (k0:Int)=(k:Int) by omega)]; rfl)
        refine⟨a.trans ⟨fun h j q1 q2 q3 k q4=>?_,fun h j q1 q2 q3 k q4=>h j (by omega) q2 q3 k q4⟩,b⟩
        by_cases hj:j=i
        · subst hj
          rw [hk0] at q4
          have:k0=k:=by omega
          subst this
          exact hgood
        · exact h j (by omega) q2 q3 k q4
      · have hne:(D7 w r (d:Int) (i+1) (Sj w (k0:Int) (i:Int) (AH w i) (SW w r k0 d i),st.2.set k0 (ML (SW w r k0 d i) (AH w i) (AH w i).off.hi)) (w.duties.drop (i+1))).1≠[]:=fun h=>by
         obtain⟨e,he⟩:=Aiq w r (d:Int) (w.duties.drop (i+1)) (i+1) (Sj w (k0:Int) (i:Int) (AH w i) (SW w r k0 d i),st.2.set k0 (ML (SW w r k0 d i) (AH w i) (AH w i).off.hi))
         exact hb (Air he h)
        refine⟨⟨fun h=>absurd h hne,fun h=>?_⟩,fun h=>absurd h hne⟩
        exfalso
        obtain⟨g1,g2⟩:=h i (Zaq _) hx hday k0 hk0
        have hf:Cg (IN w r (k0:Int) (d:Int)) i 0=none:=IS.2 fun j _ hj=>g1 j (by omega)
        have hcur:SW w r k0 d i=AbL w r k0 d:=by unfold SW; rw [hf]; rfl
        rw [hcur] at hb
        exact hb g2
  · refine same ?_ fun k=>?_
    · unfold DC
      rw [Zae hday]; rfl
    · unfold IN
      rw [Zae hday,Zbn]
theorem Cr {w:Ar} (h:Bc w=0) {j:Nat} (hj:j<w.duties.length):Ll (AH w j)=true:=by
 rw [PC hj]
 exact(Ad0 h).1 _ (Zax hj)
def WA (w:Ar) (r:List Int) (d:Nat):Prop:=∀ j,j<w.duties.length→(d:Int)≤(AH w j).day→∀ k:Nat,r.getD j (-1)=(k:Int)→Afk w r (AH w j).day.toNat j k
theorem AoN {w:Ar} {r:List Int} (hro:E5 w r) (he:Bc w=0):∀ (m d:Nat)(st:List Ay×List A1),d+m=7→st.1=[]→st.2.length=6→(∀ k:Nat,k<6→st.2.getD k OH=AbL w r k d)→((CX w r m d st).1=[]↔WA w r d)∧((CX w r m d st).1=[]→∀ k:Nat,k<6→(CX w r m d st).2.getD k OH=AbL w r k 7)
 | 0,d,st,hd,h1,h2,h3=>by
  refine⟨⟨fun _ j hj hdj=>?_,fun _=>h1⟩,fun _=>by rw [show(7:Nat)=d by omega]; exact h3⟩
  obtain⟨_,q,_⟩:=Cc (Cr he hj)
  omega
 | m+1,d,st,hd,h1,h2,h3=>by
  have h6:=(B9 he).2
  simp only [CX]
  obtain⟨a,b⟩:=AmP hro h6 d w.duties.length 0 st (by omega) h1 h2 h3
  rw [Zar] at a b
  have a':(D7 w r (d:Int) 0 st w.duties).1=[]↔∀ j,j<w.duties.length→(AH w j).day=(d:Int)→∀ k:Nat,r.getD j (-1)=(k:Int)→Afk w r d j k:=a.trans ⟨fun h j=>h j (by omega),fun h j _=>h j⟩
  by_cases hz:(D7 w r (d:Int) 0 st w.duties).1=[]
  · obtain⟨b1,b2⟩:=b hz
    obtain⟨c1,c2⟩:=AoN hro he m (d+1) (D7 w r (d:Int) 0 st w.duties) (by omega) hz b1 b2
    refine⟨c1.trans ⟨fun h j hj hdj k hk=>?_,fun h j hj hdj k hk=>h j hj (by omega) k hk⟩,c2⟩
    by_cases e:(AH w j).day=(d:Int)
    · have:=a'.1 hz j hj e k hk
      rw [e]; exact this
    · exact h j hj (by omega) k hk
  · have hne:(CX w r m (d+1) (D7 w r (d:Int) 0 st w.duties)).1≠[]:=fun h=>by
     obtain⟨e,he⟩:=AlH w r m (d+1) (D7 w r (d:Int) 0 st w.duties)
     exact hz (Air he h)
    refine⟨⟨fun h=>absurd h hne,fun h=>?_⟩,fun h=>absurd h hne⟩
    exact absurd (a'.2 fun j hj hdj k hk=>by
     have:=h j hj (by omega) k hk
     rw [hdj] at this; exact this) hz
theorem Aty {w:Ar} {r:List Int} (hro:E5 w r) (he:Bc w=0):Gy w r=[]↔WA w r 0∧∀ k,k<w.drivers.length→¬ (AbL w r k 7).used>w.hours:=by
 have h6:=(B9 he).2
 obtain⟨a,b⟩:=AoN hro he 7 0 ([],AW w) rfl rfl (R1 h6) (fun k _=>rfl)
 rw [P9,a]
 constructor
 · rintro⟨p,q⟩
   exact⟨p,fun k hk=>by rw [← b (a.2 p) k (by omega)]; exact q k hk⟩
 · rintro⟨p,q⟩
   exact⟨p,fun k hk=>by rw [b (a.2 p) k (by omega)]; exact q k hk⟩
def WB (w:Ar) (r:List Int) (k:Nat):Nat→Int
 | 0=>((AW w).getD k OH).free
 | d+1=>match Cg (IN w r (k:Int) (d:Int)) w.duties.length 0 with
  | some i=>1440*(d:Int)+(AH w i).off.hi
  | none=>WB w r k d
def Wc (w:Ar) (r:List Int) (k:Nat):Nat→Nat
 | 0=>0
 | d+1=>match Cg (IN w r (k:Int) (d:Int)) w.duties.length 0 with
  | some _=>Wc w r k d+1
  | none=>0
def AqN (w:Ar) (r:List Int) (k:Nat):Nat→Int
 | 0=>0
 | d+1=>AqN w r k d+match Cg (IN w r (k:Int) (d:Int)) w.duties.length 0 with
  | some i=>(AH w i).off.hi-(AH w i).on
  | none=>0
def Ad3 (w:Ar) (r:List Int) (d:Nat):Prop:=∀ j,j<w.duties.length→(AH w j).day<(d:Int)→∀ k:Nat,r.getD j (-1)=(k:Int)→Afk w r (AH w j).day.toNat j k
theorem Ad3.less {w:Ar} {r:List Int} {d:Nat} (h:Ad3 w r (d+1)):Ad3 w r d:=fun j hj hd k hk=>h j hj (by omega) k hk
theorem Ai3 {w:Ar} (hw:wkOk w) {k:Nat} (hk:k<w.drivers.length):∃ x off,w.drivers[k]=AJ.mk [x] [] [] off 0 0∧(AW w).getD k OH=A1.mk off 0 0 (-1):=by
 obtain⟨x,off,e⟩:=hw.2.2.2.2.2.2 _ (Zax hk)
 refine⟨x,off,e,?_⟩
 unfold AW
 rw [ZaO,Zat (by simpa using hk),ZaL,Zak hk,e]
 rfl
structure Azb (w:Ar) (r:List Int) (k d:Nat):Prop where
 inv:Wb ((d:Int)-1) (AbL w r k d)
 free:(AbL w r k d).free=WB w r k d
 row:(if (AbL w r k d).day=(d:Int)-1 then(AbL w r k d).row else 0)=(Wc w r k d:Int)
 used:(AbL w r k d).used=AqN w r k d
theorem Ai4 {w:Ar} {r:List Int} (hw:wkOk w) (he:Bc w=0) {k:Nat} (hk:k<w.drivers.length):∀ d:Nat,d≤7→Ad3 w r d→Azb w r k d
 | 0,_,_=>by
  obtain⟨x,off,e1,e2⟩:=Ai3 hw hk
  have hd:=(Ad0 he).2 _ (Zax hk)
  rw [e1] at hd
  unfold Aag at hd
  rw [Zap,Cp] at hd
  have hd2:=hd.2
  simp only at hd2
  have es:AbL w r k 0=A1.mk off 0 0 (-1):=e2
  refine⟨?_,rfl,?_,?_⟩
  · rw [es]; unfold Wb; simp only; omega
  · rw [es]; rfl
  · rw [es]; rfl
 | d+1,hd,hg=>by
  have ih:=Ai4 hw he hk d (by omega) hg.less
  obtain⟨i1,i2,i3,i4⟩:=ih
  cases hf:Cg (IN w r (k:Int) (d:Int)) w.duties.length 0 with
  | none =>
   have es:AbL w r k (d+1)=AbL w r k d:=by
    show AyI w (AbL w r k d) (Cg (IN w r (k:Int) (d:Int)) w.duties.length 0)=_
    rw [hf]; rfl
   refine⟨?_,?_,?_,?_⟩
   · rw [es]; exact i1.up (by omega)
   · rw [es,i2]; show _=(match Cg (IN w r (k:Int) (d:Int)) w.duties.length 0 with | some i=>_ | none=>_); rw [hf]
   · rw [es]
     have:=i1.2.1
     rw [if_neg (by omega)]
     show _=((match Cg (IN w r (k:Int) (d:Int)) w.duties.length 0 with | some _=>Wc w r k d+1 | none=>0:Nat):Int)
     rw [hf]; rfl
   · rw [es,i4]
     show _=AqN w r k d+(match Cg (IN w r (k:Int) (d:Int)) w.duties.length 0 with | some i=>_ | none=>0)
     rw [hf]; simp
  | some i =>
   obtain⟨_,hi,c,hfst⟩:=IT hf
   rw [Zas] at hi
   have c':=c
   unfold IN at c'
   rw [Zap,decide_eq_true_eq,decide_eq_true_eq] at c'
   obtain⟨hr,hday⟩:=c'
   have es:AbL w r k (d+1)=ML (AbL w r k d) (AH w i) (AH w i).off.hi:=by
    show AyI w (AbL w r k d) (Cg (IN w r (k:Int) (d:Int)) w.duties.length 0)=_
    rw [hf]; rfl
   have hgood:=hg i hi (by omega) k hr
   rw [hday,show((d:Int)).toNat=d from rfl] at hgood
   have hdr:=Cr he hi
   obtain⟨d1,d2,d3,d4,d5,d6,d7⟩:=Cc hdr
   have hinv:Wb (d:Int) (AbL w r k d):=i1.up (by omega)
   have hdd:=i1.2.1
   have hex:=Aio (e:=(AH w i).off.hi) hinv hdr (by omega) (by omega) (by omega) (by omega)
   have hinv':=AuV hw hinv hdr (by omega) hday hgood.2
   refine⟨?_,?_,?_,?_⟩
   · rw [es,show((d+1:Nat):Int)-1=(d:Int) by omega]; exact hinv'
   · rw [es,hex]
     show(AH w i).day*1440+(AH w i).off.hi=(match Cg (IN w r (k:Int) (d:Int)) w.duties.length 0 with | some i=>1440*(d:Int)+(AH w i).off.hi | none=>WB w r k d)
     rw [hf]; simp only; omega
   · rw [es,hex]
     show(if (AH w i).day=((d+1:Nat):Int)-1 then(if (AbL w r k d).day=(AH w i).day-1 then(AbL w r k d).row+1 else 1) else 0)=((match Cg (IN w r (k:Int) (d:Int)) w.duties.length 0 with | some _=>Wc w r k d+1 | none=>0:Nat):Int)
     rw [hf,if_pos (by omega),hday]
     simp only
     split at i3
     · rename_i h; rw [if_pos h]; omega
     · rename_i h; rw [if_neg h]; omega
   · rw [es,hex]
     show(AbL w r k d).used+((AH w i).off.hi-(AH w i).on)=AqN w r k d+(match Cg (IN w r (k:Int) (d:Int)) w.duties.length 0 with | some i=>(AH w i).off.hi-(AH w i).on | none=>0)
     rw [hf,i4]
def AwZ (w:Ar) (r:List Int) (k j:Nat):Prop:=It w (k:Int) (AH w j) OH 0=true∧Cg (IN w r (k:Int) (AH w j).day) w.duties.length 0=some j∧(AH w j).day*1440+(AH w j).on-WB w r k (AH w j).day.toNat≥600∧Wc w r k ((AH w j).day.toNat+1)≤5
theorem AoO {w:Ar} {r:List Int} (hw:wkOk w) (he:Bc w=0) {j k:Nat} (hj:j<w.duties.length) (hk:k<w.drivers.length) (hr:r.getD j (-1)=(k:Int)) (hg:Ad3 w r (AH w j).day.toNat):Afk w r (AH w j).day.toNat j k↔AwZ w r k j:=by
 have hdr:=Cr he hj
 obtain⟨d1,d2,d3,d4,d5,d6,d7⟩:=Cc hdr
 obtain⟨d,hd⟩:∃ d:Nat,(AH w j).day=d:=⟨(AH w j).day.toNat,by omega⟩
 unfold AwZ
 rw [hd] at hg ⊢
 rw [show((d:Int)).toNat=d from rfl] at hg ⊢
 obtain⟨i1,i2,i3,i4⟩:=Ai4 hw he hk d (by omega) hg
 have hinv:Wb (d:Int) (AbL w r k d):=i1.up (by omega)
 have hdd:=i1.2.1
 have hri:=AlG (k:=(k:Int)) hw hinv hdr (by omega)
 have hon:IN w r (k:Int) (d:Int) j=true:=by
  unfold IN
  rw [hr,hd]; simp
 have hfst:(∀ i,i<j→IN w r (k:Int) (d:Int) i=false)↔Cg (IN w r (k:Int) (d:Int)) w.duties.length 0=some j:=by
  constructor
  · intro h
    exact Ah8 (by omega) (by omega) hon fun i _ hi=>h i hi
  · intro h i hi
    exact(IT h).2.2.2 i (by omega) hi
 unfold Afk
 rw [Aip,hri,hfst,AqB w (k:Int) (AH w j) (AbL w r k d) OH,i2,hd]
 constructor
 · rintro⟨p,q,_,s,t⟩
   refine⟨q,p,s,?_⟩
   show(match Cg (IN w r (k:Int) (d:Int)) w.duties.length 0 with | some _=>Wc w r k d+1 | none=>0)≤5
   rw [p]
   simp only
   split at i3
   · rename_i h; rw [if_pos h] at t; omega
   · rename_i h; rw [if_neg h] at t; omega
 · rintro⟨q,p,s,t⟩
   refine⟨p,q,by omega,s,?_⟩
   have t':(match Cg (IN w r (k:Int) (d:Int)) w.duties.length 0 with | some _=>Wc w r k d+1 | none=>0)≤5:=t
   rw [p] at t'
   simp only at t'
   split at i3
   · rename_i h; rw [if_pos h]; omega
   · rename_i h; rw [if_neg h]; omega
theorem Avc {w:Ar} {r:List Int} (hw:wkOk w) (he:Bc w=0) (hro:E5 w r):WA w r 0↔∀ j,j<w.duties.length→∀ k:Nat,r.getD j (-1)=(k:Int)→AwZ w r k j:=by
 have hkn:∀ j (k:Nat),r.getD j (-1)=(k:Int)→k<w.drivers.length:=fun j k h=>by
  have:=AbH hro j
  omega
 constructor
 · intro h j hj k hk
   exact(AoO hw he hj (hkn j k hk) hk fun i hi _ q hq=>h i hi (by have:=(Cc (Cr he hi)).1; omega) q hq).1 (h j hj (by have:=(Cc (Cr he hj)).1; omega) k hk)
 · intro h
   have key:∀ d:Nat,Ad3 w r d:=by
    intro d
    induction d with
    | zero =>
     intro j hj hd
     have:=(Cc (Cr he hj)).1
     omega
    | succ d ih =>
     intro j hj hd k hk
     by_cases e:(AH w j).day<(d:Int)
     · exact ih j hj e k hk
     · have e2:(AH w j).day.toNat=d:=by omega
       exact(AoO hw he hj (hkn j k hk) hk (by rw [e2]; exact ih)).2 (h j hj k hk)
   intro j hj _ k hk
   exact key 7 j hj (by have:=(Cc (Cr he hj)).2.1; omega) k hk
def NJ (f:Nat→Int):Nat→Nat→Int
 | 0,_=>0
 | m+1,s=>f s+NJ f m (s+1)
theorem AoP (f g:Nat→Int):∀ m s,NJ (fun i=>f i+g i) m s=NJ f m s+NJ g m s
 | 0,_=>by simp [NJ]
 | m+1,s=>by simp only [NJ]; rw [AoP f g m]; omega
theorem Ur {f g:Nat→Int}:∀ {m s:Nat},(∀ i,s≤i→i<s+m→f i=g i)→NJ f m s=NJ g m s
 | 0,_,_=>rfl
 | m+1,s,h=>by
  simp only [NJ]
  rw [h s (by omega) (by omega),Ur fun i h1 h2=>h i (by omega) (by omega)]
theorem Ad4:∀ m s,NJ (fun _=>0) m s=0
 | 0,_=>rfl
 | m+1,s=>by simp only [NJ]; rw [Ad4 m]; rfl
theorem AoQ {P:Nat→Bool} {x:Nat→Int} (hu:∀ i j,i<j→P i=true→P j=false):∀ m s,NJ (fun i=>bif P i then x i else 0) m s=match Cg P m s with
  | some i=>x i
  | none=>0
 | 0,_=>rfl
 | m+1,s=>by
  simp only [NJ]
  unfold Cg
  cases hp:P s with
  | true =>
   simp only [Zab]
   rw [Ur (g:=fun _=>0) fun i h1 h2=>by rw [hu s i (by omega) hp]; rfl,Ad4]
   omega
  | false =>
   simp only [Zad]
   rw [AoQ hu m (s+1)]
   omega
def Aam (w:Ar) (r:List Int) (k:Nat) (i:Nat):Int:=bif decide (r.getD i (-1)=(k:Int)) then(AH w i).off.hi-(AH w i).on else 0
def Avd (w:Ar) (r:List Int) (k:Nat):Nat→Nat→Int
 | 0,_=>0
 | d+1,i=>Avd w r k d i+(bif IN w r (k:Int) (d:Int) i then(AH w i).off.hi-(AH w i).on else 0)
theorem AoR {w:Ar} (r:List Int) (k:Nat) {i:Nat} (h0:0≤(AH w i).day):∀ d:Nat,Avd w r k d i=if (AH w i).day<(d:Int) then Aam w r k i else 0
 | 0=>by rw [if_neg (by omega)]; rfl
 | d+1=>by
  show Avd w r k d i+_=_
  rw [AoR r k h0 d]
  unfold Aam IN
  by_cases h1:r.getD i (-1)=(k:Int)
  · rw [Zaf h1]
    by_cases h2:(AH w i).day=(d:Int)
    · rw [Zaf h2,if_neg (by omega),if_pos (by omega)]; simp
    · rw [Zae h2]
      by_cases h3:(AH w i).day<(d:Int)
      · rw [if_pos h3,if_pos (by omega)]; simp
      · rw [if_neg h3,if_neg (by omega)]; simp
  · rw [Zae h1]
    simp
theorem Axa {w:Ar} {r:List Int} (he:Bc w=0) {k:Nat} (hg:WA w r 0):NJ (Aam w r k) w.duties.length 0=AqN w r k 7:=by
 have hu:∀ d:Nat,∀ i j,i<j→IN w r (k:Int) (d:Int) i=true→j<w.duties.length→IN w r (k:Int) (d:Int) j=false:=fun d i j hij hi hj=>by
  cases hb:IN w r (k:Int) (d:Int) j with
  | false=>rfl
  | true =>
   have hb':=hb
   unfold IN at hb'
   rw [Zap,decide_eq_true_eq,decide_eq_true_eq] at hb'
   have:=(hg j hj (by omega) k hb'.1).1 i hij
   rw [hb'.2,show((d:Int)).toNat=d from rfl,hi] at this
   cases this
 have hday:∀ d:Nat,NJ (Avd w r k d) w.duties.length 0=AqN w r k d:=by
  intro d
  induction d with
  | zero=>exact Ad4 _ _
  | succ d ih =>
   show NJ (fun i=>Avd w r k d i+_) _ _=AqN w r k d+_
   rw [AoP,ih]
   congr 1
   have e:NJ (fun i=>bif IN w r (k:Int) (d:Int) i then(AH w i).off.hi-(AH w i).on else 0) w.duties.length 0=NJ (fun i=>bif (IN w r (k:Int) (d:Int) i && decide (i<w.duties.length)) then(AH w i).off.hi-(AH w i).on else 0) w.duties.length 0:=Ur fun i _ hi=>by
    rw [Zaf (show i<w.duties.length by omega),Bool.and_true]
   rw [e,AoQ (P:=fun i=>IN w r (k:Int) (d:Int) i && decide (i<w.duties.length)) (x:=fun i=>(AH w i).off.hi-(AH w i).on) fun i j hij hi=>by
    rw [Zap] at hi
    by_cases hj:j<w.duties.length
    · rw [hu d i j hij hi.1 hj]; rfl
    · rw [Zae hj,Zbn]]
   have ef:Cg (fun i=>IN w r (k:Int) (d:Int) i && decide (i<w.duties.length)) w.duties.length 0=Cg (IN w r (k:Int) (d:Int)) w.duties.length 0:=by
    cases hf:Cg (IN w r (k:Int) (d:Int)) w.duties.length 0 with
    | none=>exact IS.2 fun j h1 h2=>by rw [IS.1 hf j h1 h2]; rfl
    | some j =>
     obtain⟨a,b,c,q⟩:=IT hf
     exact Ah8 a b (by rw [c,Zaf (show j<w.duties.length by omega)]; rfl) fun i h1 h2=>by rw [q i h1 h2]; rfl
   rw [ef]
 rw [← hday 7]
 refine Ur fun i _ hi=>?_
 obtain⟨q0,q6,_⟩:=Cc (Cr he (show i<w.duties.length by omega))
 rw [AoR r k q0 7,if_pos (by omega)]
theorem Atz {w:Ar} {r:List Int} (hw:wkOk w) (he:Bc w=0) (hro:E5 w r):Gy w r=[]↔(∀ j,j<w.duties.length→∀ k:Nat,r.getD j (-1)=(k:Int)→AwZ w r k j)∧∀ k,k<w.drivers.length→¬ NJ (Aam w r k) w.duties.length 0>w.hours:=by
 rw [Aty hro he,← Avc hw he hro]
 have hkey:WA w r 0→∀ k,k<w.drivers.length→(AbL w r k 7).used=NJ (Aam w r k) w.duties.length 0:=fun hg k hk=>by
  rw [Axa he hg]
  exact(Ai4 hw he hk 7 (Zaq _) fun j hj _ q hq=>hg j hj (by have:=(Cc (Cr he hj)).1; omega) q hq).used
 constructor
 · rintro⟨p,q⟩
   exact⟨p,fun k hk=>by rw [← hkey p k hk]; exact q k hk⟩
 · rintro⟨p,q⟩
   exact⟨p,fun k hk=>by rw [hkey p k hk]; exact q k hk⟩
theorem AqO (n:Nat) (lo hi:Int):C6 (n+1) [] lo hi=some (true,()):=rfl
theorem AqP (n:Nat) (k lo hi:Int):C6 (n+2) [k] lo hi=some (Co k lo hi,()):=by
 unfold C6
 rw [show Hh (n+2) [k] lo hi 0=((AX (n+1) k lo hi).bind fun v1=>bif !!v1.fst then(some (.inl ())) else some (.inr (false,()))) from rfl,AbK]
 cases Co k lo hi <;> rfl
theorem Ai5 {n:Nat} {w:Ar} (hw:wkOk w) (hn:30<n):GU n w=some (Bc w,()):=by
 obtain⟨h1,h2,h3,h4,h5,h6,h7⟩:=hw
 unfold GU Bc
 by_cases h12:12<w.duties.length
 · rw [show decide ((w.duties.length:Int)>12)=true from Zaf (by omega),if_pos h12]; rfl
 · rw [show decide ((w.duties.length:Int)>12)=false from Zae (by omega),if_neg h12]
   by_cases hd6:6<w.drivers.length
   · rw [show decide ((w.drivers.length:Int)>6)=true from Zaf (by omega),if_pos hd6]; rfl
   · rw [show decide ((w.drivers.length:Int)>6)=false from Zae (by omega),if_neg hd6]
     simp only [AbK,h1,h2,h3,h4,Za4,Zab,Zad,Zaa]
     obtain⟨s1,s2⟩:=Gx (F:=fun n i=>E3 n w i) (G:=fun n i v0=>(AX n v0.day 0 (IntKind.i64.wrap (w.days-1))).bind fun v1=>bif !!v1.fst then((AX n v0.on 0 1439).bind fun v2=>bif !!v2.fst then((AX n v0.off.lo v0.on v0.off.hi).bind fun v3=>bif !!v3.fst then(bif !decide (v0.off.hi>IntKind.i64.wrap (v0.on+1440)) then((AX n v0.route 0 15).bind fun v4=>bif !v4.fst then(some (.inr (w,(1,())))) else E3 n w (IntKind.i64.wrap (i+1))) else some (.inr (w,(1,())))) else some (.inr (w,(1,())))) else some (.inr (w,(1,())))) else some (.inr (w,(1,())))) w.duties Ll (w,((),())) (fun _=>(w,(1,()))) 0 (by omega) (fun _ _=>rfl) (fun n i hi _=>by
      generalize w.duties[i]=d
      rw [h1,show IntKind.i64.wrap (7-1)=6 from rfl]
      unfold Ll
      simp only [AbK,Zaa]
      cases hb1:Co d.day 0 6 with
      | false=>rfl
      | true =>
       cases hb2:Co d.on 0 1439 with
       | false=>rfl
       | true =>
        have:=Cp.1 hb2
        rw [F7 (x:=d.on+1440) (by omega) (by omega)]
        have hlo:Co d.off.lo d.on d.off.hi=(decide (d.on≤d.off.lo) && decide (d.off.lo≤d.off.hi)):=rfl
        rw [hlo]
        have hhi:decide (d.off.hi>d.on+1440)=!decide (d.off.hi≤d.on+1440):=by
         rw [Bool.eq_iff_iff]; simp
        rw [hhi]
        cases decide (d.on≤d.off.lo) <;> cases decide (d.off.lo≤d.off.hi) <;> cases decide (d.off.hi≤d.on+1440) <;> cases Co d.route 0 15 <;> rfl) (n:=n) (by omega)
     obtain⟨t1,t2⟩:=Gx (F:=fun n i=>Ht n w i) (G:=fun n i v0=>(C6 n v0.knows 0 15).bind fun v1=>bif !!v1.fst then((C6 n v0.leave 0 (IntKind.i64.wrap (w.days-1))).bind fun v2=>bif !!v2.fst then((C6 n v0.wish 0 (IntKind.i64.wrap (w.days-1))).bind fun v3=>bif !!v3.fst then((AX n v0.off (-10080) 1440).bind fun v4=>bif !!v4.fst then((AX n v0.row 0 14).bind fun v5=>bif !!v5.fst then((AX n v0.used 0 w.hours).bind fun v6=>bif !v6.fst then(some (.inr (w,(1,())))) else Ht n w (IntKind.i64.wrap (i+1))) else some (.inr (w,(1,())))) else some (.inr (w,(1,())))) else some (.inr (w,(1,())))) else some (.inr (w,(1,())))) else some (.inr (w,(1,())))) w.drivers Aag (w,()) (fun _=>(w,(1,()))) 2 (by omega) (fun _ _=>rfl) (fun n i hi hn2=>by
      obtain⟨x,off,e⟩:=h7 _ (Zax hi)
      obtain⟨m,rfl⟩:∃ m,n=m+2:=⟨n-2,by omega⟩
      rw [e,h4]
      unfold Aag
      simp only [AqP,AqO,AbK,Zaa]
      simp only [ZaN,List.all_nil,Bool.and_true]
      cases Co x 0 15 <;> cases Co off (-10080) 1440 <;> rfl) (n:=n) (by omega)
     show(E3 n w 0).bind _=_
     cases ha:w.duties.all Ll with
     | false =>
      obtain⟨k,hk⟩:=s2 ha
      rw [hk]; rfl
     | true =>
      rw [s1 ha,Zaa]
      simp only [Za1]
      cases hb:w.drivers.all Aag with
      | false =>
       obtain⟨k,hk⟩:=t2 hb
       rw [hk]; rfl
      | true=>rw [t1 hb]; rfl
section
variable {w:Ar} {r:List Int}
theorem Ave {i:Nat} (h:i<r.length):r[i]=r.getD i (-1):=by simp [List.getD,Zak h]
theorem AoS (hro:E5 w r) (hl:w.duties.length≤1000) (k d:Int):∀ (n i:Nat),w.duties.length-i<n→i≤w.duties.length→E1 n r k d w (i:Int)=some (match Cg (IN w r k d) (w.duties.length-i) i with | some j=>.inr (w,((j:Int),())) | none=>.inl (w,()))
 | 0,_,h,_=>absurd h (Zan _)
 | n+1,i,h,hi=>by
  rw [E1]
  by_cases hx:i<w.duties.length
  · have hxr:i<r.length:=by rw [hro.1]; exact hx
    have ih:=AoS hro hl k d n (i+1) (by omega) (by omega)
    obtain⟨m,hm⟩:∃ m,w.duties.length-i=m+1:=⟨w.duties.length-i-1,by omega⟩
    rw [show w.duties.length-(i+1)=m by omega] at ih
    rw [show decide ((i:Int)<(w.duties.length:Int))=true by simp; omega,Zab,B3 hxr,Zaa,B3 hx,wN i (by omega),hm,ih,Ave hxr,← PC hx]
    have e1:Cg (IN w r k d) (m+1) i=bif IN w r k d i then some i else Cg (IN w r k d) m (i+1):=rfl
    have e2:IN w r k d i=(decide (r.getD i (-1)=k) && decide ((AH w i).day=d)):=rfl
    rw [e1,e2]
    cases decide (r.getD i (-1)=k) with
    | false=>rfl
    | true =>
     cases hdd:decide ((AH w i).day=d) with
     | false=>simp only [Zab,Zaa,hdd,Zad,Zbn]
     | true=>simp only [Zab,Zaa,hdd,Zbx]
  · rw [show decide ((i:Int)<(w.duties.length:Int))=false by simp; omega,show w.duties.length-i=0 by omega]; rfl
def Axb:Option Nat→Int
 | some j=>(j:Int)
 | none=>-1
theorem WC {n:Nat} (hro:E5 w r) (hl:w.duties.length≤20) (k d:Int) (hn:20<n):C7 n w r k d=some (Axb (Cg (IN w r k d) w.duties.length 0),()):=by
 unfold C7
 have h:=AoS hro (by omega) k d n 0 (by omega) (by omega)
 rw [show((0:Nat):Int)=0 from rfl,Nat.sub_zero] at h
 rw [h]
 cases Cg (IN w r k d) w.duties.length 0 <;> rfl
theorem Axc (n:Nat) (x c:Int):Nz (n+2) [x] c=some (decide (x=c),()):=by
 unfold Nz
 rw [show NG (n+2) [x] c 0=(bif decide (x=c) then(some (.inr (true,()))) else some (.inl ())) from rfl]
 cases decide (x=c) <;> rfl
theorem Axd (n:Nat) (c:Int):Nz (n+1) [] c=some (false,()):=rfl
abbrev Us (w:Ar):List Int:=w.duties.map fun d=>d.off.hi
theorem Ask (hro:E5 w r) (hw:wkOk w) (he:Bc w=0) {k:Nat} (hk:k<w.drivers.length):∀ (d n:Nat),d≤7→30+d<n→((Gs n r (Us w) (k:Int) w ((d:Int)-1)).bind fun v0=>Sum.elim (fun v1=>(A6 v1.fst.drivers v1.snd.fst).bind fun v2=>some (v2.off,())) (fun v1=>some (v1.snd.fst,())) (v0))=some (WB w r k d,())
 | _,0,_,h=>absurd h (Zan _)
 | 0,n+1,hd,h=>by
  obtain⟨x,off,e1,e2⟩:=Ai3 hw hk
  rw [Gs,show decide ((((0:Nat):Int)-1)≥0)=false from rfl,Zad,Zaa]
  simp only [Za1]
  rw [B3 hk,Zaa,e1]
  show _=some (((AW w).getD k OH).free,())
  rw [e2]
 | d+1,n+1,hd,h=>by
  have h12:=(B9 he).1
  have ih:=Ask hro hw he hk d n (by omega) (by omega)
  rw [Gs,show((d+1:Nat):Int)-1=(d:Int) by omega,Zaf (show(d:Int)≥0 by omega),Zab]
  show _=some ((match Cg (IN w r (k:Int) (d:Int)) w.duties.length 0 with | some i=>1440*(d:Int)+(AH w i).off.hi | none=>WB w r k d),())
  cases hf:Cg (IN w r (k:Int) (d:Int)) w.duties.length 0 with
  | none =>
   rw [show C7 n w r (k:Int) (d:Int)=some (-1,()) from(WC hro (by omega) _ _ (by omega)).trans (by rw [hf]; rfl),Zaa]
   simp only
   rw [show decide ((-1:Int)≥0)=false from rfl,Zad,F7 (by omega) (by omega)]
   exact ih
  | some j =>
   obtain⟨_,hj,_,_⟩:=IT hf
   rw [Zas] at hj
   have hjl:j<(Us w).length:=by simp; exact hj
   obtain⟨q0,q1,q2,q3,q4,q5,q6⟩:=Cc (Cr he hj)
   rw [show C7 n w r (k:Int) (d:Int)=some ((j:Int),()) from(WC hro (by omega) _ _ (by omega)).trans (by rw [hf]; rfl),Zaa]
   simp only
   rw [Zaf (show(j:Int)≥0 by omega),Zab,B3 hjl,Zaa,Zaa]
   simp only [Sum.elim_inr]
   have e:(Us w)[j]=(AH w j).off.hi:=by rw [PC hj]; simp
   rw [e,F7 (x:=1440*(d:Int)) (by omega) (by omega),F7 (by omega) (by omega)]
theorem Axe {n:Nat} (hro:E5 w r) (hw:wkOk w) (he:Bc w=0) {k:Nat} (hk:k<w.drivers.length) {d:Nat} (hd:d≤7) (hn:40<n):Sd n w r (Us w) (k:Int) (d:Int)=some (WB w r k d,()):=by
 unfold Sd
 rw [F7 (x:=(d:Int)-1) (by omega) (by omega)]
 exact Ask hro hw he hk d n hd (by omega)
theorem AoT (hro:E5 w r) (hw:wkOk w) (he:Bc w=0) {k:Nat} (hk:k<w.drivers.length):∀ (d n c:Nat),d≤7→30+d<n→c+d≤100→((E2 n r (k:Int) ((d:Int)-1) w (c:Int)).bind fun v0=>bif decide (v0.snd.snd.fst<0) then((A6 v0.fst.drivers v0.snd.fst).bind fun v1=>some (IntKind.i64.wrap (v0.snd.snd.snd.snd.fst+v1.row),())) else some (v0.snd.snd.snd.snd.fst,()))=some (((c+Wc w r k d:Nat):Int),())
 | _,0,_,_,h,_=>absurd h (Zan _)
 | 0,n+1,c,hd,h,hc=>by
  obtain⟨x,off,e1,e2⟩:=Ai3 hw hk
  rw [E2,show decide ((((0:Nat):Int)-1)≥0)=false from rfl,Zad,Zaa]
  simp only
  rw [show decide ((((0:Nat):Int)-1)<0)=true from rfl,Zab,B3 hk,Zaa,e1]
  simp only
  rw [F7 (by omega) (by omega)]
  show some ((c:Int)+0,())=some (((c+0:Nat):Int),())
  rw [Int.add_zero,Nat.add_zero]
 | d+1,n+1,c,hd,h,hc=>by
  have h12:=(B9 he).1
  rw [E2,show((d+1:Nat):Int)-1=(d:Int) by omega,Zaf (show(d:Int)≥0 by omega),Zab]
  show _=some (((c+(match Cg (IN w r (k:Int) (d:Int)) w.duties.length 0 with | some _=>Wc w r k d+1 | none=>0):Nat):Int),())
  cases hf:Cg (IN w r (k:Int) (d:Int)) w.duties.length 0 with
  | none =>
   rw [show C7 n w r (k:Int) (d:Int)=some (-1,()) from(WC hro (by omega) _ _ (by omega)).trans (by rw [hf]; rfl),Zaa]
   simp only
   rw [show decide ((-1:Int)≥0)=false from rfl,Zad,Zaa]
   simp only
   rw [Zae (show ¬ (d:Int)<0 by omega),Zad,Nat.add_zero]
  | some j =>
   rw [show C7 n w r (k:Int) (d:Int)=some ((j:Int),()) from(WC hro (by omega) _ _ (by omega)).trans (by rw [hf]; rfl),Zaa]
   simp only
   rw [Zaf (show(j:Int)≥0 by omega),Zab,F7 (x:=(d:Int)-1) (by omega) (by omega),wN c (by omega)]
   rw [AoT hro hw he hk d n (c+1) (by omega) (by omega) (by omega),show c+1+Wc w r k d=c+(Wc w r k d+1) by omega]
end
section
variable {w:Ar} {r:List Int}
theorem Avf {n:Nat} (hro:E5 w r) (hw:wkOk w) (he:Bc w=0) {k:Nat} (hk:k<w.drivers.length) {d:Nat} (hd:d≤6) (hn:50<n):Pm n w r (k:Int) (d:Int)=some ((Wc w r k (d+1):Int),()):=by
 unfold Pm
 have h:=AoT hro hw he hk (d+1) n 0 (by omega) (by omega) (by omega)
 rw [show((d+1:Nat):Int)-1=(d:Int) by omega,show((0:Nat):Int)=0 from rfl,Zas] at h
 exact h
def AxV (w:Ar) (r:List Int) (c k j:Nat):Bool:=decide (r.getD j (-1)=(k:Int)) && match c with
 | 0=>!It w (k:Int) (AH w j) OH 0
 | 1=>false
 | 2=>!decide (Cg (IN w r (k:Int) (AH w j).day) w.duties.length 0=some j)
 | 3=>decide (Cg (IN w r (k:Int) (AH w j).day) w.duties.length 0=some j) && decide ((AH w j).day*1440+(AH w j).on-WB w r k (AH w j).day.toNat<600)
 | _=>decide (Cg (IN w r (k:Int) (AH w j).day) w.duties.length 0=some j) && decide (Wc w r k ((AH w j).day.toNat+1)>5)
theorem Ai6 (he:Bc w=0) (hw:wkOk w) {k:Nat} (hk:k<w.drivers.length):∀ d:Nat,d≤7→-20000≤WB w r k d∧WB w r k d≤20000
 | 0,_=>by
  have:=AqC hw he k
  show -20000≤((AW w).getD k OH).free∧((AW w).getD k OH).free≤20000
  exact this.2.2.2.2.2.2
 | d+1,hd=>by
  have ih:=Ai6 he hw hk d (by omega)
  show -20000≤(match Cg (IN w r (k:Int) (d:Int)) w.duties.length 0 with | some i=>1440*(d:Int)+(AH w i).off.hi | none=>WB w r k d)∧(match Cg (IN w r (k:Int) (d:Int)) w.duties.length 0 with | some i=>1440*(d:Int)+(AH w i).off.hi | none=>WB w r k d)≤20000
  cases hf:Cg (IN w r (k:Int) (d:Int)) w.duties.length 0 with
  | none=>exact ih
  | some i =>
   obtain⟨_,hi,_,_⟩:=IT hf
   obtain⟨q0,q1,q2,q3,q4,q5,q6⟩:=Cc (Cr he (show i<w.duties.length by omega))
   simp only
   omega
theorem Avg (o:Option Nat) (j:Nat):decide (Axb o=(j:Int))=decide (o=some j):=by
 cases o with
 | none=>rfl
 | some i =>
  by_cases e:i=j
  · subst e; simp [Axb]
  · rw [Zae (show ¬ Axb (some i)=(j:Int) by show ¬ (i:Int)=(j:Int); omega),Zae (by simpa using e)]
theorem At0 {n:Nat} (hro:E5 w r) (hw:wkOk w) (he:Bc w=0) {c k j:Nat} (hc:c<5) (hk:k<w.drivers.length) (hj:j<w.duties.length) (hn:60<n):Fz n w r (Us w) (IK.mk (c:Int)) (k:Int) (j:Int)=some (AxV w r c k j,()):=by
 have h12:=(B9 he).1
 have hjr:j<r.length:=by rw [hro.1]; exact hj
 obtain⟨x,off,e1,e2⟩:=Ai3 hw hk
 obtain⟨q0,q1,q2,q3,q4,q5,q6⟩:=Cc (Cr he hj)
 obtain⟨d,hd⟩:∃ d:Nat,(AH w j).day=d:=⟨(AH w j).day.toNat,by omega⟩
 unfold Fz AxV
 rw [Zae (show ¬ (IK.mk (c:Int):IK .u8).n=5 by show ¬ (c:Int)=5; omega),Zad,B3 hjr,Zaa,Ave hjr]
 by_cases hr:r.getD j (-1)=(k:Int)
 · rw [show(r.getD j (-1) != (k:Int))=false by rw [hr]; simp,Zad,B3 hj,Zaa,B3 hk,Zaa,← PC hj,WC hro (by omega) _ _ (by omega),Zaa,Zaf hr,ZaD]
   simp only
   rw [Avg]
   obtain⟨m,rfl⟩:∃ m,n=m+2:=⟨n-2,by omega⟩
   rw [e1]
   simp only
   rw [Axc,Axd,hd,Axe hro hw he hk (show d≤7 by omega) (by omega),Avf hro hw he hk (show d≤6 by omega) (by omega),show((d:Int)).toNat=d from rfl]
   have hfb:=Ai6 (r:=r) he hw hk d (by omega)
   have hru:It w (k:Int) (AH w j) OH 0=decide (x=(AH w j).route):=by
    show(match A6 w.drivers (k:Int) with | some v=>v.knows.any fun x=>decide ((AH w j).route=x) | none=>true)=_
    rw [B3 hk,e1]
    simp only [Zby,List.any_nil,Bool.or_false]
    rw [Bool.eq_iff_iff]
    simp only [decide_eq_true_eq]
    exact⟨fun h=>h.symm,fun h=>h.symm⟩
   rcases c with _ | _ | _ | _ | _ | c
   · rw [hru]; rfl
   · rfl
   · rfl
   · simp only [Zaa]
     rw [F7 (x:=1440*(d:Int)) (by omega) (by omega),F7 (x:=1440*(d:Int)+(AH w j).on) (by omega) (by omega),F7 (by omega) (by omega),hw.2.1,show 1440*(d:Int)+(AH w j).on-WB w r k d=(d:Int)*1440+(AH w j).on-WB w r k d by omega]
     show(bif decide (Cg (IN w r (k:Int) (d:Int)) w.duties.length 0=some j) then some (decide ((d:Int)*1440+(AH w j).on-WB w r k d<600),()) else some (false,()))=_
     cases decide (Cg (IN w r (k:Int) (d:Int)) w.duties.length 0=some j) <;> rfl
   · simp only [Zaa]
     rw [hw.2.2.1]
     have hro5:decide ((Wc w r k (d+1):Int)>5)=decide (Wc w r k (d+1)>5):=by
      rw [Bool.eq_iff_iff]
      simp only [decide_eq_true_eq]
      omega
     rw [hro5]
     show(bif decide (Cg (IN w r (k:Int) (d:Int)) w.duties.length 0=some j) then some (decide (Wc w r k (d+1)>5),()) else some (false,()))=_
     cases decide (Cg (IN w r (k:Int) (d:Int)) w.duties.length 0=some j) <;> rfl
   · omega
 · rw [show(r.getD j (-1) != (k:Int))=true by simpa using hr,Zae hr]; rfl
theorem AqQ (hro:E5 w r) (he:Bc w=0) (k:Nat):∀ (n i:Nat)(s:Int),w.duties.length-i<n→i≤w.duties.length→-100000≤s→s≤1440*(i:Int)→0≤s→D9 n r (Us w) (k:Int) w s (i:Int)=some (w,((),(s+NJ (Aam w r k) (w.duties.length-i) i,())))
 | 0,_,_,h,_,_,_,_=>absurd h (Zan _)
 | n+1,i,s,h,hi,h0,h1,h2=>by
  have h12:=(B9 he).1
  rw [D9]
  by_cases hx:i<w.duties.length
  · have hxr:i<r.length:=by rw [hro.1]; exact hx
    have hxl:i<(Us w).length:=by simpa using hx
    obtain⟨m,hm⟩:∃ m,w.duties.length-i=m+1:=⟨w.duties.length-i-1,by omega⟩
    obtain⟨q0,q1,q2,q3,q4,q5,q6⟩:=Cc (Cr he hx)
    have e:(Us w)[i]=(AH w i).off.hi:=by rw [PC hx]; simp
    have es:NJ (Aam w r k) (m+1) i=Aam w r k i+NJ (Aam w r k) m (i+1):=rfl
    rw [show decide ((i:Int)<(w.duties.length:Int))=true by simp; omega,Zab,B3 hxr,Zaa,B3 hxl,Zaa,B3 hx,Zaa,wN i (by omega),Ave hxr,← PC hx,e,hm,es]
    unfold Aam
    by_cases hr:r.getD i (-1)=(k:Int)
    · rw [Zaf hr,Zab,F7 (x:=(AH w i).off.hi-(AH w i).on) (by omega) (by omega),F7 (by omega) (by omega),AqQ hro he k n (i+1) _ (by omega) (by omega) (by omega) (by omega) (by omega),show w.duties.length-(i+1)=m by omega]
      simp only [Zab]
      unfold Aam
      rw [Int.add_assoc]
    · rw [Zae hr,Zad,AqQ hro he k n (i+1) _ (by omega) (by omega) (by omega) (by omega) (by omega),show w.duties.length-(i+1)=m by omega]
      simp only [Zad]
      unfold Aam
      rw [Int.zero_add]
  · rw [show decide ((i:Int)<(w.duties.length:Int))=false by simp; omega,show w.duties.length-i=0 by omega]
    show some (w,((),(s,())))=some (w,((),(s+0,())))
    rw [Int.add_zero]
theorem AqR {n:Nat} (hro:E5 w r) (hw:wkOk w) (he:Bc w=0) {k:Nat} (hk:k<w.drivers.length) (hn:60<n):Fz n w r (Us w) (IK.mk 5) (k:Int) 0=some (decide (NJ (Aam w r k) w.duties.length 0>w.hours),()):=by
 have h12:=(B9 he).1
 obtain⟨x,off,e1,e2⟩:=Ai3 hw hk
 unfold Fz
 rw [show decide ((IK.mk 5:IK .u8).n=5)=true from rfl,Zab,B3 hk,Zaa,e1]
 simp only
 have h:=AqQ hro he k n 0 0 (by omega) (by omega) (by omega) (by omega) (by omega)
 rw [show((0:Nat):Int)=0 from rfl,Nat.sub_zero,Int.zero_add] at h
 rw [h,Zaa]
theorem Ad5 (hro:E5 w r) (hw:wkOk w) (he:Bc w=0) {c k:Nat} (hc:c<5) (hk:k<w.drivers.length):∀ (n j:Nat)(out:List Ay),70+(w.duties.length-j)<n→j≤w.duties.length→out.length+(w.duties.length-j)≤10000→∃ e,DA n r (Us w) w out (k:Int) (IK.mk (c:Int)) (j:Int)=some (w,(r,(Us w,((),(out++e,((k:Int),(IK.mk (c:Int),())))))))∧(e=[]↔∀ i,j≤i→i<w.duties.length→AxV w r c k i=false)∧e.length≤w.duties.length-j
 | 0,_,_,h,_,_=>absurd h (Zan _)
 | n+1,j,out,h,hj,ho=>by
  have h12:=(B9 he).1
  rw [DA]
  by_cases hx:j<w.duties.length
  · rw [show decide ((j:Int)<(w.duties.length:Int))=true by simp; omega,Zab,At0 hro hw he hc hk hx (by omega),Zaa,wN j (by omega)]
    simp only
    cases hb:AxV w r c k j with
    | false =>
     obtain⟨e,h1,h2,h3⟩:=Ad5 hro hw he hc hk n (j+1) out (by omega) (by omega) (by omega)
     rw [Zad,h1]
     refine⟨e,rfl,h2.trans ⟨fun hh i q1 q2=>?_,fun hh i q1 q2=>hh i (by omega) q2⟩,by omega⟩
     by_cases hi:i=j
     · rw [hi]; exact hb
     · exact hh i (by omega) q2
    | true =>
     obtain⟨e,h1,h2,h3⟩:=Ad5 hro hw he hc hk n (j+1) (out++[Ay.mk (IK.mk (c:Int)) (k:Int) (j:Int)]) (by omega) (by omega) (by simp; omega)
     rw [Zab,AK (by simp; omega),Zaa,h1]
     refine⟨Ay.mk (IK.mk (c:Int)) (k:Int) (j:Int)::e,by simp,⟨fun hh=>by simp at hh,fun hh=>?_⟩,by simp; omega⟩
     rw [hh j (by omega) hx] at hb; cases hb
  · rw [show decide ((j:Int)<(w.duties.length:Int))=false by simp; omega]
    exact⟨[],by simp,⟨fun _ i q1 q2=>by omega,fun _=>rfl⟩,by simp⟩
theorem AlR (hro:E5 w r) (hw:wkOk w) (he:Bc w=0) {k:Nat} (hk:k<w.drivers.length):∀ (n c:Nat)(out:List Ay),90+(5-c)<n→c≤5→out.length≤8000+12*c→∃ e,Gt n r (Us w) w out (k:Int) (IK.mk (c:Int))=some (w,(r,(Us w,((),(out++e,((k:Int),()))))))∧(e=[]↔∀ c',c≤c'→c'<5→∀ i,i<w.duties.length→AxV w r c' k i=false)∧e.length≤(5-c)*12
 | 0,_,_,h,_,_=>absurd h (Zan _)
 | n+1,c,out,h,hc,ho=>by
  have h12:=(B9 he).1
  rw [Gt]
  by_cases hx:c<5
  · obtain⟨e,h1,h2,h3⟩:=Ad5 hro hw he hx hk n 0 out (by omega) (by omega) (by omega)
    rw [show((0:Nat):Int)=0 from rfl] at h1
    have hw8:IntKind.u8.wrap ((c:Int)+1)=((c+1:Nat):Int):=by
     rcases c with _ | _ | _ | _ | _ | c
     · rfl
     · rfl
     · rfl
     · rfl
     · rfl
     · omega
    obtain⟨e',g1,g2,g3⟩:=AlR hro hw he hk n (c+1) (out++e) (by omega) (by omega) (by simp; omega)
    rw [Zaf (show(IK.mk (c:Int):IK .u8).n<5 by show(c:Int)<5; omega),Zab,h1,Zaa]
    simp only
    rw [hw8,g1]
    refine⟨e++e',by simp,?_,by rw [Zaz]; omega⟩
    rw [Zbp,h2,g2]
    constructor
    · rintro⟨p,q⟩ c' a b i hi
      by_cases hcc:c' = c
      · rw [hcc]; exact p i (by omega) hi
      · exact q c' (by omega) b i hi
    · intro hh
      exact⟨fun i _ hi=>hh c (by omega) hx i hi,fun c' a b i hi=>hh c' (by omega) b i hi⟩
  · rw [Zae (show ¬ (IK.mk (c:Int):IK .u8).n<5 by show ¬ (c:Int)<5; omega)]
    exact⟨[],by simp,⟨fun _ c' a b=>by omega,fun _=>rfl⟩,by simp⟩
theorem Ad6 (hro:E5 w r) (hw:wkOk w) (he:Bc w=0):∀ (n k:Nat)(out:List Ay),110+(w.drivers.length-k)<n→k≤w.drivers.length→out.length≤61*k→∃ e,DB n r (Us w) w out (k:Int)=some (w,(out++e,()))∧(e=[]↔∀ k',k≤k'→k'<w.drivers.length→(∀ c,c<5→∀ i,i<w.duties.length→AxV w r c k' i=false)∧¬ NJ (Aam w r k') w.duties.length 0>w.hours)
 | 0,_,_,h,_,_=>absurd h (Zan _)
 | n+1,k,out,h,hk,ho=>by
  have h6:=(B9 he).2
  rw [DB]
  by_cases hx:k<w.drivers.length
  · obtain⟨e,h1,h2,h3⟩:=AlR hro hw he hx n 0 out (by omega) (by omega) (by omega)
    rw [show((0:Nat):Int)=0 from rfl] at h1
    rw [show decide ((k:Int)<(w.drivers.length:Int))=true by simp; omega,Zab,h1,Zaa]
    simp only
    rw [AqR hro hw he hx (by omega),Zaa,wN k (by omega)]
    simp only
    by_cases hs:NJ (Aam w r k) w.duties.length 0>w.hours
    · rw [Zaf hs,Zab,AK (by simp; omega),Zaa]
      obtain⟨e',g1,g2⟩:=Ad6 hro hw he n (k+1) (out++e++[Ay.mk (IK.mk 5) (k:Int) 0]) (by omega) (by omega) (by simp; omega)
      rw [g1]
      refine⟨e++[Ay.mk (IK.mk 5) (k:Int) 0]++e',by simp,⟨fun hh=>by simp at hh,fun hh=>absurd hs (hh k (by omega) hx).2⟩⟩
    · rw [Zae hs,Zad]
      obtain⟨e',g1,g2⟩:=Ad6 hro hw he n (k+1) (out++e) (by omega) (by omega) (by simp; omega)
      rw [g1]
      refine⟨e++e',by simp,?_⟩
      rw [Zbp,h2,g2]
      constructor
      · rintro⟨p,q⟩ k' a b
        by_cases hkk:k' = k
        · rw [hkk]; exact⟨fun c hc i hi=>p c (by omega) hc i hi,hs⟩
        · exact q k' (by omega) b
      · intro hh
        exact⟨fun c _ hc i hi=>(hh k (by omega) hx).1 c hc i hi,fun k' a b=>hh k' (by omega) b⟩
  · rw [show decide ((k:Int)<(w.drivers.length:Int))=false by simp; omega]
    exact⟨[],by simp,⟨fun _ k' a b=>by omega,fun _=>rfl⟩⟩
theorem AlS (w:Ar) (hl:w.duties.length≤1000):∀ (n i:Nat),w.duties.length-i<n→i≤w.duties.length→Gq n w ((Us w).take i) (i:Int)=some (w,(Us w,()))
 | 0,_,h,_=>absurd h (Zan _)
 | n+1,i,h,hi=>by
  rw [Gq]
  by_cases hx:i<w.duties.length
  · have hxl:i<(Us w).length:=by simpa using hx
    rw [show decide ((i:Int)<(w.duties.length:Int))=true by simp; omega,Zab,B3 hx,Zaa,AK (by rw [ZaK]; simp; omega),Zaa,wN i (by omega)]
    have:(Us w).take i++[w.duties[i].off.hi]=(Us w).take (i+1):=by
     rw [ZaQ hxl]; simp
    rw [this]
    exact AlS w hl n (i+1) (by omega) (by omega)
  · rw [show decide ((i:Int)<(w.duties.length:Int))=false by simp; omega,ZaV (by simp; omega)]; rfl
theorem AqS {n:Nat} (hw:wkOk w) (he:Bc w=0) (hro:E5 w r) (hn:200<n):Pn n w r=some (decide (Gy w r=[]),()):=by
 have h12:=(B9 he).1
 have h6:=(B9 he).2
 unfold Pn SI
 have hL:=AlS w (by omega) n 0 (by omega) (by omega)
 rw [show((0:Nat):Int)=0 from rfl,List.take_zero] at hL
 rw [hL]
 simp only [Zaa]
 unfold SK
 obtain⟨e,h1,h2⟩:=Ad6 hro hw he n 0 [] (by omega) (by omega) (by simp)
 rw [show((0:Nat):Int)=0 from rfl,Zau] at h1
 rw [h1]
 simp only [Zaa]
 have hiff:Gy w r=[]↔e=[]:=by
  rw [Atz hw he hro,h2]
  constructor
  · rintro⟨p,q⟩ k _ hk
    refine⟨fun c hc i hi=>?_,q k hk⟩
    unfold AxV
    by_cases hr:r.getD i (-1)=(k:Int)
    · obtain⟨a,b,s,t⟩:=p i hi k hr
      rw [Zaf hr,ZaD]
      rcases c with _ | _ | _ | _ | _ | c
      · show(!It w (k:Int) (AH w i) OH 0)=false
        rw [a]; rfl
      · rfl
      · show(!decide (_=some i))=false
        rw [Zaf b]; rfl
      · show(decide (_=some i) && decide ((AH w i).day*1440+(AH w i).on-WB w r k (AH w i).day.toNat<600))=false
        rw [Zae (show ¬ (AH w i).day*1440+(AH w i).on-WB w r k (AH w i).day.toNat<600 by omega),Zbn]
      · show(decide (_=some i) && decide (Wc w r k ((AH w i).day.toNat+1)>5))=false
        rw [Zae (show ¬ Wc w r k ((AH w i).day.toNat+1)>5 by omega),Zbn]
      · omega
    · rw [Zae hr,Bool.false_and]
  · intro hh
    refine⟨fun j hj k hr=>?_,fun k hk=>(hh k (by omega) hk).2⟩
    have hk:k<w.drivers.length:=by
     have:=AbH hro j
     omega
    have hb:=fun c hc=>(hh k (by omega) hk).1 c hc j hj
    unfold AxV at hb
    rw [Zaf hr] at hb
    simp only [ZaD] at hb
    have b0:=hb 0 (by omega)
    have b2:=hb 2 (by omega)
    have b3:=hb 3 (by omega)
    have b4:=hb 4 (by omega)
    simp only at b0 b2 b3 b4
    have c2:Cg (IN w r (k:Int) (AH w j).day) w.duties.length 0=some j:=by simpa using b2
    rw [Zaf c2,ZaD,decide_eq_false_iff_not] at b3 b4
    exact⟨by simpa using b0,c2,by omega,by omega⟩
 congr 2
 rw [Bool.eq_iff_iff]
 simp only [decide_eq_true_eq]
 rw [hiff]
 constructor
 · intro h
   exact Zbh.1 (by omega)
 · rintro rfl; rfl
end
theorem AqT {n:Nat} {s:An} (hg:Eo s) {a b:Int} (hn:100<n):DW n s (B [100,114,105,118,101,114]) [a,b]=some ((Adv s a b).1,((Adv s a b).2,())):=by
 have h6:=hg.drivers
 have h12:=hg.duties
 have hw:wkOk (JH s.week a b):=⟨hg.days,hg.rest,hg.run,hg.hours,by show s.week.duties.length≤13; omega,by simp [JH]; omega,fun d hd=>by
  rcases Zam.1 hd with hd | hd
  · exact hg.drv d hd
  · rw [Zaw.1 hd]; exact⟨a,b,rfl⟩⟩
 have hF:=Ai5 (n:=n) hw (by omega)
 unfold DW
 rw [show(B [100,114,105,118,101,114]).beq (B [100,114,105,118,101,114])=true by decide,Zab,AK (by simp; omega),Zaa,Zau,show A6 [a,b] 0=some a from rfl,Zaa,show A6 [a,b] 1=some b from rfl,Zaa,AK (by simp; omega),Zaa]
 change ((GU n (JH s.week a b)).bind fun v4=>bif v4.fst != 0 then(some (s,(v4.fst,()))) else some (An.mk s.cards s.outs s.runs s.records (JH s.week a b) s.roster,(0,())))=_
 rw [hF,Zaa]
 unfold Adv
 by_cases h0:Bc (JH s.week a b)=0
 · rw [h0]; rfl
 · rw [show(Bc (JH s.week a b) != 0)=true by simpa using h0,if_neg h0]; rfl
theorem Avh {n:Nat} {s:An} (hg:Eo s) {a b c d e:Int} (hn:100<n):DW n s (B [100,117,116,121]) [a,b,c,d,e]=some ((Adw s (AP.mk a b (Rg.mk c d) e)).1,((Adw s (AP.mk a b (Rg.mk c d) e)).2,())):=by
 have h6:=hg.drivers
 have h12:=hg.duties
 have hr:=hg.ros
 have hw:wkOk (Lo s.week (AP.mk a b (Rg.mk c d) e)):=⟨hg.days,hg.rest,hg.run,hg.hours,by simp [Lo]; omega,by show s.week.drivers.length≤7; omega,hg.drv⟩
 have hF:=Ai5 (n:=n) hw (by omega)
 unfold DW
 rw [show(B [100,117,116,121]).beq (B [100,114,105,118,101,114])=false by decide,Zad,show(B [100,117,116,121]).beq (B [100,117,116,121])=true by decide,Zab,AK (by simp; omega),Zaa,Zau,show A6 [a,b,c,d,e] 0=some a from rfl,Zaa,show A6 [a,b,c,d,e] 1=some b from rfl,Zaa,show A6 [a,b,c,d,e] 2=some c from rfl,Zaa,show A6 [a,b,c,d,e] 3=some d from rfl,Zaa,show A6 [a,b,c,d,e] 4=some e from rfl,Zaa,AK (by simp; omega),Zaa,AK (by simp; omega),Zaa,Zau,AK (by simp; omega),Zaa]
 change ((GU n (Lo s.week (AP.mk a b (Rg.mk c d) e))).bind fun v9=>bif v9.fst != 0 then(some (s,(v9.fst,()))) else some (An.mk s.cards s.outs s.runs s.records (Lo s.week (AP.mk a b (Rg.mk c d) e)) (s.roster++[-1]),(0,())))=_
 rw [hF,Zaa]
 unfold Adw
 by_cases h0:Bc (Lo s.week (AP.mk a b (Rg.mk c d) e))=0
 · rw [h0]; rfl
 · rw [show(Bc (Lo s.week (AP.mk a b (Rg.mk c d) e)) != 0)=true by simpa using h0,if_neg h0]; rfl
theorem Avi {n:Nat} {s:An} (hg:Eo s) (hl:Uq s) {a b:Int} (hn:300<n):DW n s (B [103,105,118,101]) [a,b]=some ((Adx s a b).1,((Adx s a b).2,())):=by
 have h6:=hg.drivers
 have h12:=hg.duties
 have hr:=hg.ros
 unfold DW
 rw [show(B [103,105,118,101]).beq (B [100,114,105,118,101,114])=false by decide,Zad,show(B [103,105,118,101]).beq (B [100,117,116,121])=false by decide,Zad,show A6 [a,b] 0=some a from rfl,show A6 [a,b] 1=some b from rfl]
 simp only [Zaa,AbK]
 rw [F7 (x:=(s.roster.length:Int)-1) (by omega) (by omega),F7 (x:=(s.week.drivers.length:Int)-1) (by omega) (by omega)]
 unfold Adx
 cases hb1:Co a 0 ((s.roster.length:Int)-1) with
 | false=>rfl
 | true =>
  cases hb2:Co b (-1) ((s.week.drivers.length:Int)-1) with
  | false=>rfl
  | true =>
   obtain⟨a1,a2⟩:=Cp.1 hb1
   obtain⟨b1,b2⟩:=Cp.1 hb2
   obtain⟨i,rfl⟩:∃ i:Nat,a=i:=⟨a.toNat,by omega⟩
   have hi:i<s.roster.length:=by omega
   unfold XG
   simp only [ZaC,Za4,Zab,Zad,Zbx,if_true]
   rw [AK (by simp; omega),Zaa,Zau,B3 hi,Zaa,show((i:Nat):Int).toNat=i from rfl,AmB hi,Zaa,Zaa]
   obtain⟨p1,p2,_⟩:=PA.1 hl
   have hro:E5 s.week (s.roster.set i b):=⟨by rw [List.length_set]; exact hr,fun x hx=>by
    rcases List.mem_or_eq_of_mem_set hx with hx | rfl
    · exact p2.2 x hx
    · exact⟨b1,by omega⟩⟩
   simp only
   rw [AqS hg.wkOk p1 hro (by omega),Zaa]
   have hp:Ln s.week (s.roster.set i b)=decide (Gy s.week (s.roster.set i b)=[]):=by
    unfold Ln
    rw [Zaf p1,Aib.2 hro]; rfl
   rw [hp]
   cases decide (Gy s.week (s.roster.set i b)=[]) <;> rfl
theorem At1 {s:An} {f:Int} {l:List Int} (h0:(Br s f l).2≠0):(Br s f l).1=s:=by
 have hcard:∀ c,(FX s c).2≠0→(FX s c).1=s:=fun c h=>by
  unfold FX at h ⊢
  split
  · rfl
  · split
    · rename_i h1 h2; rw [if_neg h1,if_pos h2] at h; exact absurd rfl h
    · rfl
 have hrec:∀ c,(Nc s c).2≠0→(Nc s c).1=s:=fun c h=>by
  unfold Nc at h ⊢
  split
  · rfl
  · split
    · rename_i h1 h2; rw [if_neg h1,if_pos h2] at h; exact absurd rfl h
    · rfl
 have hin:∀ a b c,(Asc s a b c).2≠0→(Asc s a b c).1=s:=fun a b c h=>by
  unfold Asc at h ⊢
  cases hgo:W7 s.outs a with
  | none=>rfl
  | some k =>
   rw [hgo] at h
   simp only at h ⊢
   cases ho:s.outs[k]? with
   | none=>rfl
   | some o =>
    rw [ho] at h
    simp only at h ⊢
    by_cases hc:(Co b o.fr 1000000 && Co c 0 1000)=true
    · rw [if_pos hc] at h; exact absurd rfl h
    · rw [if_neg hc]
 have hout:∀ a b,(Aah s a b).2≠0→(Aah s a b).1=s:=fun a b h=>by
  unfold Aah at h ⊢
  by_cases c1:(Co a 0 99 && Co b 0 1000000)=true
  · rw [if_pos c1] at h ⊢
    by_cases c2:R2 s.outs a<0
    · rw [if_pos c2] at h ⊢
      by_cases c3:Afc s.runs a b=true
      · rw [if_pos c3] at h ⊢
        by_cases c4:(Gu s.cards a b).2=0
        · rw [if_pos c4] at h ⊢
          by_cases c5:(Gu s.cards a b).1=[]
          · rw [if_pos c5] at h; exact absurd rfl h
          · rw [if_neg c5]
        · rw [if_neg c4]
      · rw [if_neg c3]
    · rw [if_neg c2]
  · rw [if_neg c1]
 unfold Br at h0 ⊢
 split at h0
 · by_cases q0:f=189
   · rw [if_pos q0] at h0 ⊢; exact hcard _ h0
   rw [if_neg q0] at h0 ⊢
   by_cases q0:f=190
   · rw [if_pos q0] at h0 ⊢; exact hcard _ h0
   rw [if_neg q0] at h0 ⊢
   by_cases q0:f=191
   · rw [if_pos q0] at h0 ⊢; exact hcard _ h0
   rw [if_neg q0] at h0 ⊢
   by_cases q0:f=192
   · rw [if_pos q0] at h0 ⊢; exact hcard _ h0
   rw [if_neg q0] at h0 ⊢
   by_cases q0:f=193
   · rw [if_pos q0] at h0 ⊢; exact hout _ _ h0
   rw [if_neg q0] at h0 ⊢
   by_cases q0:f=194
   · rw [if_pos q0] at h0 ⊢; exact hin _ _ _ h0
   rw [if_neg q0] at h0 ⊢
   by_cases q0:f=195
   · rw [if_pos q0] at h0 ⊢; exact hrec _ h0
   rw [if_neg q0] at h0 ⊢
   by_cases q0:f=196
   · rw [if_pos q0] at h0 ⊢; exact hrec _ h0
   rw [if_neg q0] at h0 ⊢
   by_cases q0:f=197
   · rw [if_pos q0] at h0 ⊢; exact hrec _ h0
   rw [if_neg q0] at h0 ⊢
   by_cases q0:f=198
   · rw [if_pos q0] at h0 ⊢
     unfold Adv at h0 ⊢
     split
     · rename_i c; rw [if_pos c] at h0; exact absurd rfl h0
     · rfl
   rw [if_neg q0] at h0 ⊢
   by_cases q0:f=199
   · rw [if_pos q0] at h0 ⊢
     unfold Adw at h0 ⊢
     split
     · rename_i c; rw [if_pos c] at h0; exact absurd rfl h0
     · rfl
   rw [if_neg q0] at h0 ⊢
   unfold Adx at h0 ⊢
   split
   · rename_i c1
     rw [if_pos c1] at h0
     split
     · rename_i c2; rw [if_pos c2] at h0; exact absurd rfl h0
     · rfl
   · rfl
 · rfl
theorem At2 {s:An} {t:ByteArray} {f:Int} {l:List Int} (h:BQ t=some (f,l)):Cf s t=Br s f l:=by
 unfold Cf
 rw [h]
 simp only
 by_cases h0:(Br s f l).2=0
 · rw [if_pos h0]
 · rw [if_neg h0]
   exact Prod.ext (At1 h0).symm rfl
theorem Avj {t:ByteArray} {f:Int} {l:List Int} (h:BQ t=some (f,l)):Asf t=decide (f≤192):=by unfold Asf; rw [h]
theorem Avk {t:ByteArray} {f:Int} {l:List Int} (h:BQ t=some (f,l)) (hf:f≤192):Ao9 t=V8 f l:=by
 unfold Ao9; rw [h]; simp only; rw [if_pos hf]
theorem Axf {t:ByteArray} {f:Int} {l:List Int} (h:BQ t=some (f,l)):AbJ t=(decide (195≤f) && decide (f≤197)):=by unfold AbJ; rw [h]
theorem Axg {t:ByteArray} {f:Int} {l:List Int} (h:BQ t=some (f,l)) (hf:195≤f∧f≤197):AoG t=Ad1 f l:=by
 unfold AoG; rw [h]; simp only; rw [if_pos hf]
structure Azc (s:An):Prop where
 good:Eo s
 recs:V9 s.records
 law:Uq s
theorem Azu {vs:List Int} {m:Int} (h:(vs.length:Int)=m) (hm:m=2):∃ a b,vs=[a,b]:=by
 rcases vs with _ | ⟨a,_ | ⟨b,_ | ⟨c,d⟩⟩⟩ <;> first | exact⟨_,_,rfl⟩ | (simp at h; omega)
theorem AzB {vs:List Int} {m:Int} (h:(vs.length:Int)=m) (hm:m=3):∃ a b c,vs=[a,b,c]:=by
 rcases vs with _ | ⟨a,_ | ⟨b,_ | ⟨c,_ | ⟨d,e⟩⟩⟩⟩ <;> first | exact⟨_,_,_,rfl⟩ | (simp at h; omega)
theorem Azv {vs:List Int} {m:Int} (h:(vs.length:Int)=m) (hm:m=4):∃ a b c d,vs=[a,b,c,d]:=by
 rcases vs with _ | ⟨a,_ | ⟨b,_ | ⟨c,_ | ⟨d,_ | ⟨e,f⟩⟩⟩⟩⟩ <;> first | exact⟨_,_,_,_,rfl⟩ | (simp at h; omega)
theorem Azy {vs:List Int} {m:Int} (h:(vs.length:Int)=m) (hm:m=5):∃ a b c d e,vs=[a,b,c,d,e]:=by
 rcases vs with _ | ⟨a,_ | ⟨b,_ | ⟨c,_ | ⟨d,_ | ⟨e,_ | ⟨f,g⟩⟩⟩⟩⟩⟩ <;> first | exact⟨_,_,_,_,_,rfl⟩ | (simp at h; omega)
theorem Azd {n:Nat} {s:An} (hf:Azc s) {t:ByteArray} (ht:t.size≤1000) (hn:1400<n):AhE n s t=some ((Cf s t).1,((Cf s t).2,())):=by
 have hg:=hf.good
 unfold AhE
 rw [AbF (by omega) (by omega),Zaa,AwS (by omega) (by omega),Atu (by omega) (by omega)]
 simp only [Zaa]
 rcases AlD t with⟨q1,q2⟩ | ⟨p,x,vs,q1,q2,q3,q4⟩
 · rw [q1]
   unfold Cf
   rw [q2]; rfl
 · rw [q1,At2 q4,Avj q4,Axf q4]
   simp only [Aim,ZaC,Zad]
   have hcards:∀ {f:Int} {l:List Int},BQ t=some (f,l)→f≤192→Lk (V8 f l)→Br s f l=FX s (V8 f l)→((TV n s (Ao9 t)).bind fun v2=>some (v2.fst,(v2.snd.fst,())))=some ((Br s f l).1,((Br s f l).2,())):=fun {f l} e hff hk hw=>by
    rw [Avk e hff,hw,Ava hg hk (by omega)]; rfl
   have hrecs:∀ {f:Int} {l:List Int},BQ t=some (f,l)→195≤f∧f≤197→YH (Ad1 f l)→Br s f l=Nc s (Ad1 f l)→((NV n s (AoG t)).bind fun v2=>some (v2.fst,(v2.snd.fst,())))=some ((Br s f l).1,((Br s f l).2,())):=fun {f l} e hff hk hw=>by
    rw [Axg e hff,hw,AqM hf.recs hg.rk hk (by omega)]; rfl
   have:=P7 Ep (fun a b h=>(SR a b).1 h) _ _ _ q2
   simp only [Dk,Zal,Prod.mk.injEq,List.not_mem_nil,or_false] at this
   rcases this with⟨rfl,rfl⟩ | ⟨rfl,rfl⟩ | ⟨rfl,rfl⟩ | ⟨rfl,rfl⟩ | ⟨rfl,rfl⟩ | ⟨rfl,rfl⟩ | ⟨rfl,rfl⟩ | ⟨rfl,rfl⟩ | ⟨rfl,rfl⟩ | ⟨rfl,rfl⟩ | ⟨rfl,rfl⟩ | ⟨rfl,rfl⟩
   · obtain⟨a,b,c,d,rfl⟩:=Azv q3 rfl
     exact hcards q4 (by decide) ⟨by simp [V8],by simp [V8]⟩ rfl
   · obtain⟨a,b,c,d,rfl⟩:=Azv q3 rfl
     exact hcards q4 (by decide) ⟨by simp [V8],by simp [V8]⟩ rfl
   · obtain⟨a,b,c,d,rfl⟩:=Azv q3 rfl
     exact hcards q4 (by decide) ⟨by simp [V8],by simp [V8]⟩ rfl
   · obtain⟨a,b,c,rfl⟩:=AzB q3 rfl
     exact hcards q4 (by decide) ⟨by simp [V8],by simp [V8]⟩ rfl
   · obtain⟨a,b,rfl⟩:=Azu q3 rfl
     show((GV n s (B [111,117,116]) [a,b]).bind fun v3=>some (v3.fst,(v3.snd.fst,())))=_
     rw [AwY hg (by omega)]; rfl
   · obtain⟨a,b,c,rfl⟩:=AzB q3 rfl
     show((GV n s (B [105,110]) [a,b,c]).bind fun v3=>some (v3.fst,(v3.snd.fst,())))=_
     rw [Ayq hg (by omega)]; rfl
   · obtain⟨a,b,c,d,e,rfl⟩:=Azy q3 rfl
     exact hrecs q4 (by decide) ⟨by simp [Ad1],by simp [Ad1]⟩ rfl
   · obtain⟨a,b,c,d,rfl⟩:=Azv q3 rfl
     exact hrecs q4 (by decide) ⟨by simp [Ad1],by simp [Ad1]⟩ rfl
   · obtain⟨a,b,c,d,e,rfl⟩:=Azy q3 rfl
     exact hrecs q4 (by decide) ⟨by simp [Ad1],by simp [Ad1]⟩ rfl
   · obtain⟨a,b,rfl⟩:=Azu q3 rfl
     show((DW n s (B [100,114,105,118,101,114]) [a,b]).bind fun v3=>some (v3.fst,(v3.snd.fst,())))=_
     rw [AqT hg (by omega)]; rfl
   · obtain⟨a,b,c,d,e,rfl⟩:=Azy q3 rfl
     show((DW n s (B [100,117,116,121]) [a,b,c,d,e]).bind fun v3=>some (v3.fst,(v3.snd.fst,())))=_
     rw [Avh hg (by omega)]; rfl
   · obtain⟨a,b,rfl⟩:=Azu q3 rfl
     show((DW n s (B [103,105,118,101]) [a,b]).bind fun v3=>some (v3.fst,(v3.snd.fst,())))=_
     rw [Avi hg hf.law (by omega)]; rfl
def VA (m:Nat) (s:An):Prop:=AbE m s∧V9 s.records∧Uq s
theorem VA.fine {m:Nat} {s:An} (h:VA m s):Azc s:=⟨h.1.1,h.2.1,h.2.2⟩
theorem VA.step {m:Nat} {s:An} (h:VA (m+1) s) (t:ByteArray):VA m (Cf s t).1:=⟨h.1.step t,AqH h.2.1 t,AoD h.1.1 h.2.2 t⟩
theorem VA.less {m k:Nat} {s:An} (h:VA m s) (hk:k≤m):VA k s:=⟨h.1.less hk,h.2⟩
theorem AqU:VA 150 AC:=⟨Kz,AoH,AmM⟩
theorem Afl (full:List ByteArray) (hs:∀ t∈full,t.size≤1000) (hl:full.length≤150) (x2:An):∀ (n i:Nat)(s:An)(es:List Int),1500+(full.length-i)<n→i≤full.length→VA (full.length-i) s→es.length=i→Jp n full x2 s es (i:Int)=some (x2,((Bf s (full.drop i)).1,((),((),(es++(Bf s (full.drop i)).2,())))))
 | 0,_,_,_,h,_,_,_=>absurd h (Zan _)
 | n+1,i,s,es,h,hi,hL,he=>by
  rw [Jp]
  by_cases hx:i<full.length
  · have hd:full.drop i=full[i]::full.drop (i+1):=Zaj hx
    rw [show decide ((i:Int)<(full.length:Int))=true by simp; omega,Zab,B3 hx,Zaa,Azd hL.fine (hs _ (Zax hx)) (by omega),Zaa]
    simp only
    rw [AK (by simp; omega),Zaa,wN i (by omega)]
    have hL':VA (full.length-(i+1)) (Cf s full[i]).1:=VA.step (by rw [show full.length-(i+1)+1=full.length-i by omega]; exact hL) _
    rw [Afl full hs hl x2 n (i+1) _ _ (by omega) (by omega) hL' (by simp [he]),hd]
    simp [Bf]
  · have hd:full.drop i=[]:=by simp; omega
    rw [show decide ((i:Int)<(full.length:Int))=false by simp; omega,hd]
    simp [Bf]
theorem Ai7 {n:Nat} {lines:List ByteArray} (hs:∀ t∈lines,t.size≤1000) (hl:lines.length≤150) (hn:1700≤n):TY n lines=some ((Bf AC lines).1,((Bf AC lines).2,())):=by
 unfold TY AaR
 have h:=Afl lines hs hl (An.mk [] [] [] [] (Ar.mk 0 [] [] 0 0 0) []) n 0 AC [] (by omega) (by omega) (AqU.less (by omega)) rfl
 rw [show((0:Nat):Int)=0 from rfl,Zar,Zau] at h
 show(Jp n lines (An.mk [] [] [] [] (Ar.mk 0 [] [] 0 0 0) []) AC [] 0).bind _=_
 rw [h]; rfl
theorem Avl {n:Nat} {lines:List ByteArray} (hbig:lines.length≤4000000000000000000) (hn:lines.length<n):∃ b,Qt n lines=some (b,())∧(b=true→lines.length≤52):=by
 by_cases h52:lines.length≤52
 · obtain⟨b,hb⟩:=AuP hbig hn
   exact⟨b,hb,fun _=>h52⟩
 · have H:∀ (n i:Nat)(z:Int),lines.length-i<n→i≤lines.length→∃ z',IF n lines z (i:Int)=some (lines,(z',())):=by
    intro n
    induction n with
    | zero=>intro i z h; exact absurd h (Zan _)
    | succ n ih =>
     intro i z h hi
     rw [IF]
     by_cases hx:i<lines.length
     · rw [show decide ((i:Int)<(lines.length:Int))=true by simp; omega,Zab,B3 hx,Zaa,wN i (by omega)]
       exact ih (i+1) _ (by omega) (by omega)
     · rw [show decide ((i:Int)<(lines.length:Int))=false by simp; omega,Zad]
       exact⟨z,rfl⟩
   obtain⟨z,hz⟩:=H n 0 0 (by omega) (by omega)
   rw [show((0:Nat):Int)=0 from rfl] at hz
   refine⟨false,?_,fun h=>by cases h⟩
   unfold Qt
   rw [hz]
   simp only [Zaa]
   rw [Zae (show ¬ (lines.length:Int)≤30 by omega),Zae (show ¬ (lines.length:Int)≤52 by omega),Zae (show ¬ (lines.length:Int)=1 by omega)]
   rfl
theorem Ng {α β:Type} {F:Nat→List α→Int→Option β} (l:List α) (G:List α→β) (B:Nat→List α→Int→α→Option β) (N:Nat) (hl:l.length≤1000000)
  (hF:∀ n out i,F (n+1) out i=bif decide (i<(l.length:Int)) then(A6 l i).bind (B n out i) else some (G out))
  (hB:∀ n out (i:Nat) (hi:i<l.length),N≤n→B n out (i:Int) l[i]=(app out [l[i]]).bind fun o=>F n o (IntKind.i64.wrap ((i:Int)+1))):∀ (n i:Nat)(out:List α),N+(l.length-i)<n→i≤l.length→out.length≤i→F n out (i:Int)=some (G (out++l.drop i))
 | 0,_,_,h,_,_=>absurd h (Zan _)
 | n+1,i,out,h,hi,ho=>by
  rw [hF]
  by_cases hx:i<l.length
  · have hd:l.drop i=l[i]::l.drop (i+1):=Zaj hx
    rw [show decide ((i:Int)<(l.length:Int))=true by simp; omega,Zab,B3 hx,Zaa,hB n out i hx (by omega),AK (by simp; omega),Zaa,wN i (by omega),Ng l G B N hl hF hB n (i+1) _ (by omega) (by omega) (by simp; omega),hd]
    simp
  · have hd:l.drop i=[]:=by simp; omega
    rw [show decide ((i:Int)<(l.length:Int))=false by simp; omega,hd]
    simp
theorem Aan {α A B:Type} {F:Nat→Int→Option (A ⊕ B)} (l:List α) (okv:A) (Bd:Nat→Int→α→Option (A ⊕ B)) (N:Nat) (hl:l.length≤1000000)
  (hF:∀ n i,F (n+1) i=bif decide (i<(l.length:Int)) then(A6 l i).bind (Bd n i) else some (.inl okv))
  (hB:∀ n (i:Nat) (hi:i<l.length),N≤n→Bd n (i:Int) l[i]=F n (IntKind.i64.wrap ((i:Int)+1))):∀ (n i:Nat),N+(l.length-i)<n→i≤l.length→F n (i:Int)=some (.inl okv)
 | 0,_,h,_=>absurd h (Zan _)
 | n+1,i,h,hi=>by
  rw [hF]
  by_cases hx:i<l.length
  · rw [show decide ((i:Int)<(l.length:Int))=true by simp; omega,Zab,B3 hx,Zaa,hB n i hx (by omega),wN i (by omega)]
    exact Aan l okv Bd N hl hF hB n (i+1) (by omega) (by omega)
  · rw [show decide ((i:Int)<(l.length:Int))=false by simp; omega]; rfl
theorem SX (l:Nat):(((l:Nat):Int) != ((l:Nat):Int))=false:=by simp
structure AqV (s:An):Prop where
 cards:s.cards.length≤1000
 outs:s.outs.length≤1000
 runs:s.runs.length≤1000
 records:s.records.length≤1000
 duties:s.week.duties.length≤1000
 drivers:s.week.drivers.length≤1000
 drv:∀ d∈s.week.drivers,d.knows.length≤10∧d.leave.length≤10∧d.wish.length≤10
 roster:s.roster.length≤1000
theorem Eo.small {s:An} (h:Eo s):AqV s:=⟨by have:=h.cards; omega,by have:=h.outs; omega,by have:=h.runs; omega,by have:=h.recs; omega,by have:=h.duties; omega,by have:=h.drivers; omega,fun d hd=>by obtain⟨k,off,rfl⟩:=h.drv d hd; simp,by have:=h.ros; have:=h.duties; omega⟩
theorem AqW {n:Nat} {w:Ar} (h1:w.duties.length≤1000) (h2:w.drivers.length≤1000) (h3:∀ d∈w.drivers,d.knows.length≤10∧d.leave.length≤10∧d.wish.length≤10) (hn:1100<n):Vj n w w=some (true,()):=by
 unfold Vj
 have d1:(w.days != w.days)=false:=by simp
 have d2:(w.rest != w.rest)=false:=by simp
 have d3:(w.run != w.run)=false:=by simp
 have d4:(w.hours != w.hours)=false:=by simp
 simp only [d1,d2,d3,d4,SX,Za4,Zab,Zad]
 have l1:=Aan (F:=fun n i=>Fw n w w i) w.duties (w,(w,((),((),())))) (fun n i v0=>(A6 w.duties i).bind fun v1=>bif !(decide (v0.day=v1.day) && (decide (v0.on=v1.on) && (decide (v0.off.lo=v1.off.lo) && (decide (v0.off.hi=v1.off.hi) && true) && (decide (v0.route=v1.route) && true)))) then(some (.inr (w,(w,(false,()))))) else Fw n w w (IntKind.i64.wrap (i+1))) 0 (by omega) (fun n i=>by
  show Fw (n+1) w w i=_
  rw [Fw]) (fun n i hi _=>by
  rw [B3 hi,Zaa]
  simp) n 0 (by omega) (by omega)
 have l2:=Aan (F:=fun n i=>Fx n w w i) w.drivers (w,(w,())) (fun n i v0=>(A6 w.drivers i).bind fun v1=>bif !v0.off != v1.off then(bif !v0.row != v1.row then(bif !v0.used != v1.used then((D8 n v0.knows v1.knows).bind fun v2=>bif !!v2.fst then((D8 n v0.leave v1.leave).bind fun v3=>bif !!v3.fst then((D8 n v0.wish v1.wish).bind fun v4=>bif !v4.fst then(some (.inr (w,(w,(false,()))))) else Fx n w w (IntKind.i64.wrap (i+1))) else some (.inr (w,(w,(false,()))))) else some (.inr (w,(w,(false,()))))) else some (.inr (w,(w,(false,()))))) else some (.inr (w,(w,(false,()))))) else some (.inr (w,(w,(false,()))))) 20 (by omega) (fun n i=>by
  show Fx (n+1) w w i=_
  rw [Fx]) (fun n i hi hn2=>by
  obtain⟨k1,k2,k3⟩:=h3 _ (Zax hi)
  rw [B3 hi,Zaa]
  simp only [bne_self_eq_false,Za4,Zab,SU (n:=n) (l:=w.drivers[i].knows) (by omega) (by omega),SU (n:=n) (l:=w.drivers[i].leave) (by omega) (by omega),SU (n:=n) (l:=w.drivers[i].wish) (by omega) (by omega),Zaa,ZaC,Zad]) n 0 (by omega) (by omega)
 rw [show((0:Nat):Int)=0 from rfl] at l1 l2
 try simp only at l1 l2
 rw [l1,Zaa]
 simp only [Za1]
 rw [l2]; rfl
theorem Ai8 {n:Nat} {s:An} (h:AqV s) (hn:1100<n):QO n s s=some (true,()):=by
 have hc:Vh n s.cards s.cards=some (true,()):=by
  unfold Vh
  have l:=Nf (F:=fun n i=>Hz n s.cards s.cards i) s.cards (fun v0 v1=>decide (v0.bus=v1.bus) && (decide (v0.number=v1.number) && (decide (v0.minute=v1.minute) && (decide (v0.kind.n=v1.kind.n) && (decide (v0.part=v1.part) && (decide (v0.sg=v1.sg) && true)))))) (by simp) (by have:=h.cards; omega) (fun n i=>by
   show Hz (n+1) s.cards s.cards i=_
   rw [Hz]) n 0 (by have:=h.cards; omega) (by omega)
  rw [show((0:Nat):Int)=0 from rfl] at l
  rw [SX,Zad,l]; rfl
 have ho:YA n s.outs s.outs=some (true,()):=by
  unfold YA
  have l:=Nf (F:=fun n i=>Jd n s.outs s.outs i) s.outs (fun v0 v1=>decide (v0.bus=v1.bus) && (decide (v0.fr=v1.fr) && true)) (by simp) (by have:=h.outs; omega) (fun n i=>by
   show Jd (n+1) s.outs s.outs i=_
   rw [Jd]) n 0 (by have:=h.outs; omega) (by omega)
  rw [show((0:Nat):Int)=0 from rfl] at l
  rw [SX,Zad,l]; rfl
 have hr:YB n s.runs s.runs=some (true,()):=by
  unfold YB
  have l:=Nf (F:=fun n i=>Je n s.runs s.runs i) s.runs (fun v0 v1=>decide (v0.bus=v1.bus) && (decide (v0.fr=v1.fr) && (decide (v0.to_=v1.to_) && (decide (v0.miles=v1.miles) && true)))) (by simp) (by have:=h.runs; omega) (fun n i=>by
   show Je (n+1) s.runs s.runs i=_
   rw [Je]) n 0 (by have:=h.runs; omega) (by omega)
  rw [show((0:Nat):Int)=0 from rfl] at l
  rw [SX,Zad,l]; rfl
 have he:OY n s.records s.records=some (true,()):=by
  unfold OY
  have l:=Nf (F:=fun n i=>Ey n s.records s.records i) s.records (fun v0 v1=>decide (v0.machine=v1.machine) && (decide (v0.seq=v1.seq) && (decide (v0.minute=v1.minute) && (decide (v0.kind.n=v1.kind.n) && (decide (v0.a=v1.a) && (decide (v0.b=v1.b) && true)))))) (by simp) (by have:=h.records; omega) (fun n i=>by
   show Ey (n+1) s.records s.records i=_
   rw [Ey]) n 0 (by have:=h.records; omega) (by omega)
  rw [show((0:Nat):Int)=0 from rfl] at l
  rw [SX,Zad,l]; rfl
 have hw:=AqW (n:=n) (w:=s.week) h.duties h.drivers h.drv hn
 have hi:=SU (n:=n) (l:=s.roster) (by have:=h.roster; omega) (by have:=h.roster; omega)
 unfold QO
 simp only [hc,ho,hr,he,hw,hi,Zaa,Zab]
theorem Avm {n:Nat} {s:An} (h:AqV s) (hn:1100<n):V2 n s=some (s,()):=by
 have q1:=h.cards; have q2:=h.outs; have q3:=h.runs; have q4:=h.records; have q5:=h.duties; have q6:=h.drivers; have q7:=h.roster
 have hC:Pa n s.cards=some (s.cards,()):=by
  unfold Pa
  have l:=Ng (F:=fun n out i=>CU n s.cards out i) s.cards (fun o=>(o,())) (fun n out i v0=>(XB n v0).bind fun v1=>(app out [v1.fst]).bind fun v2=>CU n s.cards v2 (IntKind.i64.wrap (i+1))) 0 (by omega) (fun n out i=>by
   show CU (n+1) s.cards out i=_
   rw [CU]) (fun n out i hi _=>rfl) n 0 [] (by omega) (by omega) (by simp)
  rw [show((0:Nat):Int)=0 from rfl] at l
  rw [l]; rfl
 have hR:LU n s.records=some (s.records,()):=by
  unfold LU
  have l:=Ng (F:=fun n out i=>Cb n s.records out i) s.records (fun o=>(o,())) (fun n out i v0=>(S9 n v0).bind fun v1=>(app out [v1.fst]).bind fun v2=>Cb n s.records v2 (IntKind.i64.wrap (i+1))) 0 (by omega) (fun n out i=>by
   show Cb (n+1) s.records out i=_
   rw [Cb]) (fun n out i hi _=>rfl) n 0 [] (by omega) (by omega) (by simp)
  rw [show((0:Nat):Int)=0 from rfl] at l
  rw [l]; rfl
 have hW:RT n s.week=some (s.week,()):=by
  unfold RT
  have l1:=Ng (F:=fun n out i=>DP n s.week (Ar.mk 0 [] [] 0 0 0) s.week.days out [] s.week.rest s.week.run s.week.hours i) s.week.duties (fun o=>(s.week,(Ar.mk 0 [] [] 0 0 0,((s.week.days,(o,([],(s.week.rest,(s.week.run,(s.week.hours,())))))),((),((),((),()))))))) (fun n out i v0=>(app out [v0]).bind fun v1=>DP n s.week (Ar.mk 0 [] [] 0 0 0) s.week.days v1 [] s.week.rest s.week.run s.week.hours (IntKind.i64.wrap (i+1))) 0 (by omega) (fun n out i=>by
   show DP (n+1) _ _ _ out _ _ _ _ i=_
   rw [DP]) (fun n out i hi _=>rfl) n 0 [] (by omega) (by omega) (by simp)
  rw [show((0:Nat):Int)=0 from rfl] at l1
  try simp only at l1
  rw [l1]
  simp only [Zaa]
  have l2:=Ng (F:=fun n out i=>DQ n s.week (Ar.mk 0 [] [] 0 0 0) s.week.days ([]++s.week.duties.drop 0) out s.week.rest s.week.run s.week.hours i) s.week.drivers (fun o=>(s.week,(Ar.mk 0 [] [] 0 0 0,((s.week.days,([]++s.week.duties.drop 0,(o,(s.week.rest,(s.week.run,(s.week.hours,())))))),((),((),())))))) (fun n out i v0=>(Gw n v0.knows).bind fun v1=>(Gw n v0.leave).bind fun v2=>(Gw n v0.wish).bind fun v3=>(app out [AJ.mk v1.fst v2.fst v3.fst v0.off v0.row v0.used]).bind fun v4=>DQ n s.week (Ar.mk 0 [] [] 0 0 0) s.week.days ([]++s.week.duties.drop 0) v4 s.week.rest s.week.run s.week.hours (IntKind.i64.wrap (i+1))) 0 (by omega) (fun n out i=>by
   show DQ (n+1) _ _ _ _ out _ _ _ i=_
   rw [DQ]) (fun n out i hi _=>by
   obtain⟨k1,k2,k3⟩:=h.drv _ (Zax hi)
   unfold Gw
   rw [AK (by simp; omega),AK (by simp; omega),AK (by simp; omega)]
   rfl) n 0 [] (by omega) (by omega) (by simp)
  rw [show((0:Nat):Int)=0 from rfl] at l2
  try simp only at l2
  rw [l2]
  simp only [Zaa,Zar,Zau]
 have hA:app [] s.roster=some s.roster:=by rw [AK (by simp; omega)]; rfl
 unfold V2
 rw [hC,hR,hW,hA]
 simp only [Zaa]
 have l1:=Ng (F:=fun n out i=>F0 n s (An.mk [] [] [] [] (Ar.mk 0 [] [] 0 0 0) []) s.cards out [] s.records s.week.days s.week.duties s.week.drivers s.week.rest s.week.run s.week.hours s.roster i) s.outs (fun o=>(s,(An.mk [] [] [] [] (Ar.mk 0 [] [] 0 0 0) [],((s.cards,(o,([],(s.records,(s.week.days,(s.week.duties,(s.week.drivers,(s.week.rest,(s.week.run,(s.week.hours,(s.roster,()))))))))))),((),((),((),()))))))) (fun n out i v0=>(A6 s.outs i).bind fun v1=>(app out [Sm.mk v0.bus v1.fr]).bind fun v2=>F0 n s (An.mk [] [] [] [] (Ar.mk 0 [] [] 0 0 0) []) s.cards v2 [] s.records s.week.days s.week.duties s.week.drivers s.week.rest s.week.run s.week.hours s.roster (IntKind.i64.wrap (i+1))) 0 (by omega) (fun n out i=>by
  show F0 (n+1) _ _ _ out _ _ _ _ _ _ _ _ _ i=_
  rw [F0]) (fun n out i hi _=>by
  rw [B3 hi,Zaa]) n 0 [] (by omega) (by omega) (by simp)
 rw [show((0:Nat):Int)=0 from rfl] at l1
 try simp only at l1
 rw [l1]
 simp only [Zaa,Zar,Zau]
 have l2:=Ng (F:=fun n out i=>F5 n s (An.mk [] [] [] [] (Ar.mk 0 [] [] 0 0 0) []) s.cards s.outs out s.records s.week.days s.week.duties s.week.drivers s.week.rest s.week.run s.week.hours s.roster i) s.runs (fun o=>(s,(An.mk [] [] [] [] (Ar.mk 0 [] [] 0 0 0) [],((s.cards,(s.outs,(o,(s.records,(s.week.days,(s.week.duties,(s.week.drivers,(s.week.rest,(s.week.run,(s.week.hours,(s.roster,()))))))))))),((),((),())))))) (fun n out i v0=>(app out [v0]).bind fun v1=>F5 n s (An.mk [] [] [] [] (Ar.mk 0 [] [] 0 0 0) []) s.cards s.outs v1 s.records s.week.days s.week.duties s.week.drivers s.week.rest s.week.run s.week.hours s.roster (IntKind.i64.wrap (i+1))) 0 (by omega) (fun n out i=>by
  show F5 (n+1) _ _ _ _ out _ _ _ _ _ _ _ _ i=_
  rw [F5]) (fun n out i hi _=>rfl) n 0 [] (by omega) (by omega) (by simp)
 rw [show((0:Nat):Int)=0 from rfl] at l2
 try simp only at l2
 rw [l2]
 simp only [Zaa,Zar,Zau]
abbrev Avn:An:=An.mk [] [] [] [] (Ar.mk 0 [] [] 0 0 0) []
theorem Avo {n:Nat} {lines:List ByteArray} (hr:NX lines=false) (hl:lines.length≤1000) (hn:lines.length<n):GW n lines=some (Avn,([],(3,()))):=by
 unfold GW
 rw [P3 hn (by omega),hr]; rfl
theorem At3 {n:Nat} {lines:List ByteArray} (hn:lines.length+2000≤n) (hbig:lines.length≤4000000000000000000):Ju n lines=some (true,()):=by
 unfold Ju
 obtain⟨b,hb,h52⟩:=Avl (n:=n) hbig (by omega)
 have hw:=ArT (show 60≤n by omega)
 rw [hb,Zaa]
 cases b with
 | false=>simp only [Za4,Zab]; rw [hw]; rfl
 | true =>
  have hl:=h52 rfl
  simp only [ZaC,Zad]
  rw [ArS (by omega),Zaa,Aoo hbig (by omega)]
  cases hR:NX lines with
  | false =>
   rw [Avo hR (by omega) (by omega),Zaa,Zaa]
   have hz:=Ai8 (n:=n) (s:=Avn) ⟨by simp,by simp,by simp,by simp,by simp,by simp,by simp,by simp⟩ (by omega)
   simp only [Za4,Zab,decide_true,hz,hw,Zaa]
   rfl
  | true =>
   obtain⟨h1,h2⟩:=P2.1 hR
   have hgood:=(Nd lines 0 AC (Kz.less (by omega))).1
   have hlen:=SS lines AC
   rw [AwP hR (by omega),Zaa,Zaa,Ai7 (fun t ht=>ZaI (h2 t ht) (by decide)) (by omega) (by omega)]
   simp only [ZaC,Zad,Zaa,Avm hgood.small (show 1100<n by omega),Ai8 hgood.small (show 1100<n by omega),SX,Za4,Zab]
   have l:=Nf (F:=fun n i=>Cd n (Bf AC lines).2 (Bf AC lines).2 i) (Bf AC lines).2 (fun a b=>!(a != b)) (by simp) (by omega) (fun n i=>by
    show Cd (n+1) _ _ i=_
    rw [Cd]
    simp only [Bool.not_not]) n 0 (by omega) (by omega)
   rw [show((0:Nat):Int)=0 from rfl] at l
   try simp only at l
   rw [show((0:Int) != 0)=false from rfl,l]
   simp only [Za4,Zab,Zaa,Za1,hw]
theorem Asl:∀ (l:List ByteArray)(s:An)(i:Nat)(hi:i<l.length)(a b:Int)(r:List Int),(Bf s l).2[i]? = some 0→BQ l[i]=some (193,a::b::r)→(Co a 0 99 && Co b 0 1000000)=true
 | t::l,s,0,hi,a,b,r,h0,hp=>by
  have h0':(Cf s t).2=0:=by simpa [Bf] using h0
  have hp':BQ t=some (193,a::b::r):=by simpa using hp
  obtain⟨⟨f,l5⟩,hy,hw,_⟩:=ST h0'
  rw [hp'] at hy
  cases hy
  have hw2:(Aah s a b).2=0:=by
   unfold Br at hw
   split at hw
   · rename_i h5; cases h5; exact hw
   · cases hw
  exact(Aih hw2).1
 | t::l,s,i+1,hi,a,b,r,h0,hp=>Asl l (Cf s t).1 i (by simpa using hi) a b r (by simpa [Bf] using h0) (by simpa using hp)
theorem Ai9 (full:List ByteArray) (hs:∀ t∈full,t.size≤1000) (hl:full.length≤1000) (errs:List Int) (s:An) (hg:Eo s) (hel:errs.length=full.length) (hb:∀ (i:Nat)(hi:i<full.length)(a b:Int)(r:List Int),errs[i]? = some 0→BQ full[i]=some (193,a::b::r)→(Co a 0 99 && Co b 0 1000000)=true):∀ (n i:Nat)(out:List Int),1300+(full.length-i)<n→i≤full.length→out.length≤i→D3 n full errs s out (i:Int)=some (s,(out++P8 s.cards (full.drop i) (errs.drop i) i,()))
 | 0,_,_,h,_,_=>absurd h (Zan _)
 | n+1,i,out,h,hi,ho=>by
  rw [D3]
  by_cases hx:i<full.length
  · have hd:full.drop i=full[i]::full.drop (i+1):=Zaj hx
    have hxe:i<errs.length:=by omega
    have hde:errs.drop i=errs[i]::errs.drop (i+1):=Zaj hxe
    have hsz:=hs _ (Zax hx)
    have ih:=fun out ho=>Ai9 full hs hl errs s hg hel hb n (i+1) out (by omega) (by omega) ho
    rw [show decide ((i:Int)<(full.length:Int))=true by simp; omega,Zab,B3 hx,Zaa,AbF (by omega) (by omega),Zaa,B3 hxe,wN i (by omega),hd,hde]
    unfold P8
    rcases AlD full[i] with⟨q1,q2⟩ | ⟨p,x,vs,q1,q2,q3,q4⟩
    · have hb:V7 s.cards full[i]=false:=by unfold V7; rw [q2]
      rw [q1,hb,Zbn]
      exact ih out (by omega)
    · rw [q1]
      simp only [Aim,Zab]
      rcases Ao4 q2 with⟨rfl,hm,hff⟩ | ⟨hne,hff⟩
      · obtain⟨a,b,rfl⟩:=Azu q3 hm
        rw [hff] at q4
        have hbq:(B [111,117,116]).beq (B [111,117,116])=true:=by decide
        rw [hbq,Zab,Zaa]
        by_cases h0:errs[i]=0
        · have hbt:=hb i hx a b _ (by rw [Zak hxe,h0]) q4
          have hlb:V7 s.cards full[i]=decide (((PB s.cards a b).length:Int)>0):=by
           have e:V7 s.cards full[i]=decide ((((Gu s.cards a b).1.length:Nat):Int)>0):=by unfold V7; rw [q4]; rfl
           rw [e]
           have hn:=AlP hg.chk hbt
           by_cases hz:(Gu s.cards a b).1=[]
           · rw [hz,hn.2 hz]
           · have hz2:PB s.cards a b≠[]:=fun h=>hz (hn.1 h)
             rw [Zaf (show(((Gu s.cards a b).1.length:Nat):Int)>0 by have:=List.length_pos_iff.2 hz; omega),Zaf (show(((PB s.cards a b).length:Nat):Int)>0 by have:=List.length_pos_iff.2 hz2; omega)]
          rw [hlb,Zaf h0,Zab,show A6 [a,b] 0=some a from rfl,Zaa,show A6 [a,b] 1=some b from rfl,Zaa,AoI hg.kind hg.cards (by omega),Zaa,ZaD]
          simp only
          cases decide (((PB s.cards a b).length:Int)>0) with
          | false=>simp only [Zad]; exact ih out (by omega)
          | true =>
           simp only [Zab]
           rw [AK (by simp; omega),Zaa,ih _ (by simp; omega)]
           simp
        · rw [Zae h0,Zad,Bool.false_and,Zad]
          exact ih out (by omega)
      · have hb:V7 s.cards full[i]=false:=by
         unfold V7
         rw [q4]
         rcases vs++List.replicate (5-vs.length) 0 with _ | ⟨a,_ | ⟨b,c⟩⟩
         · rfl
         · rfl
         · simp only
           rw [Zae hff,Bool.false_and]
        rw [Bs hne,hb,Zbn]
        exact ih out (by omega)
  · have hd:full.drop i=[]:=by simp; omega
    rw [show decide ((i:Int)<(full.length:Int))=false by simp; omega,hd]
    simp [P8]
theorem AqX {n:Nat} {lines:List ByteArray} (hs:∀ t∈lines,t.size≤200) (hl:lines.length≤50) (hn:1400<n):YE n (Bf AC lines).1 lines (Bf AC lines).2=some (P8 (Bf AC lines).1.cards lines (Bf AC lines).2 0,()):=by
 have hgood:=(Nd lines 0 AC (Kz.less (by omega))).1
 unfold YE
 have h:=Ai9 lines (fun t ht=>ZaI (hs t ht) (by decide)) (by omega) (Bf AC lines).2 (Bf AC lines).1 hgood (SS _ _) (fun i hi a b r h0 hp=>Asl lines AC i hi a b r h0 hp) n 0 [] (by omega) (by omega) (by simp)
 rw [show((0:Nat):Int)=0 from rfl,Zar,Zar,Zau] at h
 rw [h]; rfl
theorem WD (bus:Int) (s:An) (hr:∀ r∈s.runs,Asg r) (hl:s.runs.length≤1000):∀ (n i:Nat)(a c:Nat),s.runs.length-i<n→i≤s.runs.length→a≤1000*i→c≤i→H1 n bus s (a:Int) (c:Int) (i:Int)=some (s,((a:Int)+Sk (Lq bus (s.runs.drop i)),((c:Int)+((Lq bus (s.runs.drop i)).length:Int),())))
 | 0,_,_,_,h,_,_,_=>absurd h (Zan _)
 | n+1,i,a,c,h,hi,ha,hc=>by
  rw [H1]
  by_cases hx:i<s.runs.length
  · have hd:s.runs.drop i=s.runs[i]::s.runs.drop (i+1):=Zaj hx
    obtain⟨_,_,m0,m1⟩:=hr _ (Zax hx)
    obtain⟨m,hm⟩:∃ m:Nat,s.runs[i].miles=m:=⟨s.runs[i].miles.toNat,by omega⟩
    rw [show decide ((i:Int)<(s.runs.length:Int))=true by simp; omega,Zab,B3 hx,Zaa,Zaa,hd,wN i (by omega)]
    unfold Lq
    by_cases hb:s.runs[i].bus=bus
    · rw [Zaf hb,Zab,hm,F7 (x:=(a:Int)+(m:Int)) (by omega) (by omega),wN c (by omega),List.filter_cons_of_pos (by simpa using hb)]
      have:=WD bus s hr hl n (i+1) (a+m) (c+1) (by omega) (by omega) (by omega) (by omega)
      rw [show((a+m:Nat):Int)=(a:Int)+(m:Int) by omega] at this
      rw [this]
      unfold Lq
      simp only [Sk,Za6,hm]
      congr 3
      · omega
      · congr 1; omega
    · rw [Zae hb,Zad,List.filter_cons_of_neg (by simpa using hb)]
      exact WD bus s hr hl n (i+1) a c (by omega) (by omega) (by omega) (by omega)
  · have hd:s.runs.drop i=[]:=by simp; omega
    rw [show decide ((i:Int)<(s.runs.length:Int))=false by simp; omega,hd]
    simp [Lq,Sk]
theorem AoU {n:Nat} {s:An} (bus:Int) (hr:∀ r∈s.runs,Asg r) (hl:s.runs.length≤1000) (hn:s.runs.length<n):Vt n s bus=some (Sk (Lq bus s.runs),(((Lq bus s.runs).length:Int),())):=by
 unfold Vt
 have h:=WD bus s hr hl n 0 0 0 (by omega) (by omega) (by omega) (by omega)
 rw [show((0:Nat):Int)=0 from rfl,Zar,Int.zero_add,Int.zero_add] at h
 rw [h]; rfl
theorem At4 {n:Nat} {lines:List ByteArray} {bus:Int} (hn:lines.length+2000≤n) (hbig:lines.length≤4000000000000000000):Jv n lines bus=some (true,()):=by
 unfold Jv
 obtain⟨b,hb,h52⟩:=Avl (n:=n) hbig (by omega)
 have hw:=ArT (show 60≤n by omega)
 rw [hb,Zaa]
 cases b with
 | false=>simp only [Za4,Zab]; rw [hw]; rfl
 | true =>
  have hl:=h52 rfl
  simp only [ZaC,Zad]
  rw [ArS (by omega),Zaa,Aoo hbig (by omega)]
  cases hR:NX lines with
  | false =>
   have hLb:GX n lines=some ([],(3,())):=by
    unfold GX
    rw [P3 (by omega) hbig,hR]; rfl
   have hMb:D6 n lines bus=some (0,(3,())):=by
    unfold D6
    rw [P3 (by omega) hbig,hR]; rfl
   rw [hLb,Zaa,Zaa,hMb,Zaa,Zaa]
   simp only [Za4,Zab,decide_true,hw,Zaa,Zbo]
   rfl
  | true =>
   obtain⟨h1,h2⟩:=P2.1 hR
   have hM:=Aak lines AC Afi
   have hgood:=(Nd lines 0 AC (Kz.less (by omega))).1
   have hruns:=hgood.runs
   have hll:=AlF (Bf AC lines).1.cards lines (Bf AC lines).2 0
   rw [AwR hR (by omega),Zaa,Zaa]
   have hRM:=AoU (n:=n) bus hM.runs (by omega) (by omega)
   have hRP:=Ai7 (n:=n) (lines:=lines) (fun t ht=>ZaI (h2 t ht) (by decide)) (by omega) (by omega)
   have hRL:=AqX (n:=n) h2 h1 (by omega)
   have hI:=SU (n:=n) (l:=P8 (Bf AC lines).1.cards lines (Bf AC lines).2 0) (by omega) (by omega)
   by_cases hbus:0≤bus∧bus≤99
   · rw [AuS hR (by omega) hbus,Zaa,Zaa]
     simp only [ZaC,Zad,hRP,Zaa,show((0:Int) != 0)=false from rfl,Za4,Zab,hRL,hI,hRM]
     rw [Zae (show ¬ bus<0 by omega),Zae (show ¬ bus>99 by omega)]
     simp only [Za4,Zab,Zad]
     by_cases h0:(Lq bus (Bf AC lines).1.runs).length=0
     · rw [Zaf h0,Zbh.1 h0]
       simp only [Zbo,Zab,show decide (((0:Nat):Int)=0)=true from rfl,decide_true,show Sk []=0 from rfl,hw,Zaa]
     · rw [Zae h0,Zae (show ¬ (((Lq bus (Bf AC lines).1.runs).length:Nat):Int)=0 by omega)]
       simp only [Zad,decide_true,Zab,hw,Zaa]
   · have hMb:D6 n lines bus=some (0,(2,())):=by
      unfold D6
      rw [P3 (by omega) hbig,hR,Zaa]
      simp only [Zab]
      rw [show((0:Int) != 0)=false from rfl,Zad,KO,Zaa,show Co bus 0 99=false from Yu.2 hbus]
      rfl
     rw [hMb,Zaa,Zaa]
     simp only [ZaC,Zad,hRP,Zaa,show((0:Int) != 0)=false from rfl,Za4,Zab,hRL,hI,hRM]
     by_cases c1:bus<0
     · rw [Zaf c1]
       simp only [ZaC,Zad,decide_true,Zab,hw,Zaa]
     · rw [Zae c1,Zaf (show bus>99 by omega)]
       simp only [Za4,Zab,decide_true,hw,Zaa]
end Go.Proofs.YtkpgggfibljflaaGreatDoor
