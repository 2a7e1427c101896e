/- The plain law. -/
import Derived.Test.YtkpgggfibljflaaGreatDoorgRL04
set_option linter.all false
set_option maxRecDepth 100000
namespace Go.Proofs.YtkpgggfibljflaaGreatDoor
open Go Go.RowKit Go.Proofs
def AxG:AO:=AO.mk 0 0 (Rg.mk 0 0) 0
abbrev AF (w:Ax) (i:Nat):AO:=w.duties.getD i AxG
def IG (w:Ax) (r:List Int) (k d:Int) (i:Nat):Bool:=decide (r.getD i (-1)=k) && decide ((AF w i).day=d)
def Cg (P:Nat→Bool):Nat→Nat→Option Nat
 | 0,_=>none
 | m+1,s=>bif P s then some s else Cg P m (s+1)
theorem IJ {P:Nat→Bool}:∀ {m s:Nat},Cg P m s=none↔∀ j,s≤j→j<s+m→P j=false
 | 0,s=>⟨fun _ j h1 h2=>by omega,fun _=>rfl⟩
 | m+1,s=>by
  unfold Cg
  cases h:P s with
  | true =>
   simp only [Zab]
   constructor
   · intro hh; cases hh
   · intro hh; rw [hh s (by omega) (by omega)] at h; cases h
  | false =>
   rw [Zad,IJ]
   constructor
   · intro hh j h1 h2
     by_cases e:j=s
     · rw [e]; exact h
     · exact hh j (by omega) (by omega)
   · intro hh j h1 h2
     exact hh j (by omega) (by omega)
theorem IL {P:Nat→Bool}:∀ {m s j:Nat},Cg P m s=some j→s≤j∧j<s+m∧P j=true∧∀ i,s≤i→i<j→P i=false
 | 0,s,j,h=>by cases h
 | m+1,s,j,h=>by
  unfold Cg at h
  cases hp:P s with
  | true=>rw [hp,Zab] at h; cases h; exact⟨by omega,by omega,hp,fun i h1 h2=>by omega⟩
  | false =>
   rw [hp,Zad] at h
   obtain⟨a,b,c,d⟩:=IL h
   refine⟨by omega,by omega,c,fun i h1 h2=>?_⟩
   by_cases e:i=s
   · rw [e]; exact hp
   · exact d i (by omega) h2
theorem AfC {P:Nat→Bool} {m s j:Nat} (h1:s≤j) (h2:j<s+m) (h3:P j=true) (h4:∀ i,s≤i→i<j→P i=false):Cg P m s=some j:=by
 cases h:Cg P m s with
 | none=>rw [IJ.1 h j h1 h2] at h3; cases h3
 | some i =>
  obtain⟨a,b,c,d⟩:=IL h
  by_cases e:i<j
  · rw [h4 i a e] at c; cases c
  · by_cases e2:j<i
    · rw [d j h1 e2] at h3; cases h3
    · rw [show i=j by omega]
theorem Aj8 {P:Nat→Bool} (i:Nat):Cg P (i+1) 0=match Cg P i 0 with
  | some j=>some j
  | none=>bif P i then some i else none:=by
 cases h:Cg P i 0 with
 | some j =>
  obtain⟨a,b,c,d⟩:=IL h
  exact AfC (by omega) (by omega) c d
 | none =>
  simp only
  cases hp:P i with
  | true=>exact AfC (by omega) (by omega) hp fun j h1 h2=>IJ.1 h j h1 (by omega)
  | false =>
   exact IJ.2 fun j h1 h2=>by
    by_cases e:j=i
    · rw [e]; exact hp
    · exact IJ.1 h j h1 (by omega)
def AwH (w:Ax) (s:Az):Option Nat→Az
 | none=>s
 | some i=>Mr s (AF w i) (AF w i).off.hi
def AaB (w:Ax) (r:List Int) (k:Nat):Nat→Az
 | 0=>(AS w).getD k Om
 | d+1=>AwH w (AaB w r k d) (Cg (IG w r (k:Int) (d:Int)) w.duties.length 0)
abbrev RQ (w:Ax) (r:List Int) (k d i:Nat):Az:=AwH w (AaB w r k d) (Cg (IG w r (k:Int) (d:Int)) i 0)
def AdQ (w:Ax) (r:List Int) (d j k:Nat):Prop:=(∀ i,i<j→IG w r (k:Int) (d:Int) i=false)∧Rn w (k:Int) (j:Int) (AF w j) (AaB w r k d)=[]
theorem AsR (s:Az) (x:AO) (e:Int):(Mr s x e).day=x.day:=by
 unfold Mr
 by_cases h:s.day=x.day
 · rw [Zaf h,Zab]; exact h
 · rw [Zae h,Zad]
   cases s.day != AeC (x.day-1) <;> rfl
theorem OY {w:Ax} {i:Nat} (h:i<w.duties.length):AF w i=w.duties[i]:=by simp [AF,List.getD,Zan h]
theorem Amt {w:Ax} {r:List Int} {k d i:Nat} (h:IG w r (k:Int) (d:Int) i=false):RQ w r k d (i+1)=RQ w r k d i:=by
 unfold RQ
 rw [Aj8,h]
 cases Cg (IG w r (k:Int) (d:Int)) i 0 <;> rfl
theorem AkA {w:Ax} {r:List Int} (hro:E2 w r) (h6:w.drivers.length≤6) (d:Nat):∀ (m i:Nat)(st:List Aw×List Az),i+m=w.duties.length→st.1=[]→st.2.length=6→(∀ k:Nat,k<6→st.2.getD k Om=RQ w r k d i)→((D4 w r (d:Int) i st (w.duties.drop i)).1=[]↔∀ j,i≤j→j<w.duties.length→(AF w j).day=(d:Int)→∀ k:Nat,r.getD j (-1)=(k:Int)→AdQ w r d j k)∧((D4 w r (d:Int) i st (w.duties.drop i)).1=[]→(D4 w r (d:Int) i st (w.duties.drop i)).2.length=6∧∀ k:Nat,k<6→(D4 w r (d:Int) i st (w.duties.drop i)).2.getD k Om=RQ w r k d w.duties.length)
 | 0,i,st,hi,h1,h2,h3=>by
  have hd:w.duties.drop i=[]:=by simp; omega
  rw [hd]
  simp only [D4]
  refine⟨⟨fun _ j a b=>by omega,fun _=>h1⟩,fun _=>⟨h2,?_⟩⟩
  rw [show w.duties.length=i by omega]; exact h3
 | m+1,i,st,hi,h1,h2,h3=>by
  have hx:i<w.duties.length:=by omega
  have hd:w.duties.drop i=w.duties[i]::w.duties.drop (i+1):=Zaj hx
  rw [hd]
  simp only [D4]
  rw [← OY hx]
  have same:D9 w r (d:Int) st i (AF w i)=st→(∀ k:Nat,IG w r (k:Int) (d:Int) i=false)→((D4 w r (d:Int) (i+1) (D9 w r (d:Int) st i (AF w i)) (w.duties.drop (i+1))).1=[]↔∀ j,i≤j→j<w.duties.length→(AF w j).day=(d:Int)→∀ k:Nat,r.getD j (-1)=(k:Int)→AdQ w r d j k)∧((D4 w r (d:Int) (i+1) (D9 w r (d:Int) st i (AF w i)) (w.duties.drop (i+1))).1=[]→(D4 w r (d:Int) (i+1) (D9 w r (d:Int) st i (AF w i)) (w.duties.drop (i+1))).2.length=6∧∀ k:Nat,k<6→(D4 w r (d:Int) (i+1) (D9 w r (d:Int) st i (AF w i)) (w.duties.drop (i+1))).2.getD k Om=RQ w r k d w.duties.length):=fun e hP=>by
   rw [e]
   obtain⟨a,b⟩:=AkA hro h6 d m (i+1) st (by omega) h1 h2 (fun k hk=>by rw [Amt (hP k)]; exact h3 k hk)
   refine⟨a.trans ⟨fun h j q1 q2 q3 k q4=>?_,fun h j q1 q2 q3 k q4=>h j (by omega) q2 q3 k q4⟩,b⟩
   by_cases hj:j=i
   · subst hj
     have:=hP k
     unfold IG at this
     rw [q3,q4] at this
     simp at this
   · exact h j (by omega) q2 q3 k q4
  by_cases hday:(AF w i).day=(d:Int)
  · obtain⟨b0,b1⟩:=Aa7 hro i
    by_cases hn:r.getD i (-1)=-1
    · refine same ?_ fun k=>?_
      · unfold D9
        rw [Zaf hday,Zaf hn]; rfl
      · unfold IG
        rw [hn,Zae (show ¬ (-1:Int)=(k:Int) by omega)]; rfl
    · obtain⟨k0,hk0⟩:∃ k0:Nat,r.getD i (-1)=k0:=⟨(r.getD i (-1)).toNat,by omega⟩
      have hk6:k0<6:=by omega
      have hstep:D9 w r (d:Int) st i (AF w i)=(st.1++Rn w (k0:Int) (i:Int) (AF w i) (RQ w r k0 d i),st.2.set k0 (Mr (RQ w r k0 d i) (AF w i) (AF w i).off.hi)):=by
       unfold D9
       rw [Zaf hday,Zae hn,hk0]
       simp only [Zab,Zad]
       rw [show((k0:Int)).toNat=k0 from rfl,h3 k0 hk6]
      have hon:IG w r (k0:Int) (d:Int) i=true:=by
       unfold IG
       rw [hk0,hday]; simp
      rw [hstep,h1,Zav]
      by_cases hb:Rn w (k0:Int) (i:Int) (AF w i) (RQ w r k0 d i)=[]
      · have hf:Cg (IG w r (k0:Int) (d:Int)) i 0=none:=by
         cases hf:Cg (IG w r (k0:Int) (d:Int)) i 0 with
         | none=>rfl
         | some j =>
          exfalso
          have h2r:=(Agj.1 hb).2.2.1
          unfold RQ at h2r
          rw [hf] at h2r
          obtain⟨_,_,c,_⟩:=IL hf
          have hdj:(AF w j).day=(d:Int):=by
           unfold IG at c
           rw [Zaq] at c
           simpa using c.2
          have:((AwH w (AaB w r k0 d) (some j)).day != (AF w i).day)=true:=h2r
          rw [show(AwH w (AaB w r k0 d) (some j)).day=(AF w j).day from AsR _ _ _,hdj,hday] at this
          simp at this
        have hcur:RQ w r k0 d i=AaB w r k0 d:=by unfold RQ; rw [hf]; rfl
        rw [hb]
        have hgood:AdQ w r d i k0:=⟨fun j hj=>IJ.1 hf j (by omega) (by omega),by rw [← hcur]; exact hb⟩
        obtain⟨a,b⟩:=AkA hro h6 d m (i+1) ([],st.2.set k0 (Mr (RQ w r k0 d i) (AF w i) (AF w i).off.hi)) (by omega) rfl (by simp [h2]) (fun k hk=>by
         show(st.2.set k0 _).getD k Om=_
         rw [Aa6]
         by_cases hkk:k0=k
         · subst hkk
           rw [if_pos ⟨rfl,by omega⟩]
           rw [hcur]
           unfold RQ
           rw [Aj8,hf,hon]; rfl
         · rw [if_neg fun h=>hkk h.1,h3 k hk]
           refine(Amt ?_).symm
           unfold IG
           rw [hk0,Zae (show ¬ (k0:Int)=(k:Int) by omega)]; rfl)
        refine⟨a.trans ⟨fun h j q1 q2 q3 k q4=>?_,fun h j q1 q2 q3 k q4=>h j (by omega) q2 q3 k q4⟩,b⟩
        by_cases hj:j=i
        · subst hj
          rw [hk0] at q4
          have:k0=k:=by omega
          subst this
          exact hgood
        · exact h j (by omega) q2 q3 k q4
      · have hne:(D4 w r (d:Int) (i+1) (Rn w (k0:Int) (i:Int) (AF w i) (RQ w r k0 d i),st.2.set k0 (Mr (RQ w r k0 d i) (AF w i) (AF w i).off.hi)) (w.duties.drop (i+1))).1≠[]:=fun h=>by
         obtain⟨e,he⟩:=Agk w r (d:Int) (w.duties.drop (i+1)) (i+1) (Rn w (k0:Int) (i:Int) (AF w i) (RQ w r k0 d i),st.2.set k0 (Mr (RQ w r k0 d i) (AF w i) (AF w i).off.hi))
         exact hb (Agl he h)
        refine⟨⟨fun h=>absurd h hne,fun h=>?_⟩,fun h=>absurd h hne⟩
        exfalso
        obtain⟨g1,g2⟩:=h i (Zap _) hx hday k0 hk0
        have hf:Cg (IG w r (k0:Int) (d:Int)) i 0=none:=IJ.2 fun j _ hj=>g1 j (by omega)
        have hcur:RQ w r k0 d i=AaB w r k0 d:=by unfold RQ; rw [hf]; rfl
        rw [hcur] at hb
        exact hb g2
  · refine same ?_ fun k=>?_
    · unfold D9
      rw [Zae hday]; rfl
    · unfold IG
      rw [Zae hday,Bool.and_false]
theorem Cq {w:Ax} (h:Ba w=0) {j:Nat} (hj:j<w.duties.length):KN (AF w j)=true:=by
 rw [OY hj]
 exact(Acr h).1 _ (Za1 hj)
def Vp (w:Ax) (r:List Int) (d:Nat):Prop:=∀ j,j<w.duties.length→(d:Int)≤(AF w j).day→∀ k:Nat,r.getD j (-1)=(k:Int)→AdQ w r (AF w j).day.toNat j k
theorem Amu {w:Ax} {r:List Int} (hro:E2 w r) (he:Ba w=0):∀ (m d:Nat)(st:List Aw×List Az),d+m=7→st.1=[]→st.2.length=6→(∀ k:Nat,k<6→st.2.getD k Om=AaB w r k d)→((CV w r m d st).1=[]↔Vp w r d)∧((CV w r m d st).1=[]→∀ k:Nat,k<6→(CV w r m d st).2.getD k Om=AaB w r k 7)
 | 0,d,st,hd,h1,h2,h3=>by
  refine⟨⟨fun _ j hj hdj=>?_,fun _=>h1⟩,fun _=>by rw [show(7:Nat)=d by omega]; exact h3⟩
  obtain⟨_,q,_⟩:=Cd (Cq he hj)
  omega
 | m+1,d,st,hd,h1,h2,h3=>by
  have h6:=(B5 he).2
  simp only [CV]
  obtain⟨a,b⟩:=AkA hro h6 d w.duties.length 0 st (by omega) h1 h2 h3
  rw [Zar] at a b
  have a':(D4 w r (d:Int) 0 st w.duties).1=[]↔∀ j,j<w.duties.length→(AF w j).day=(d:Int)→∀ k:Nat,r.getD j (-1)=(k:Int)→AdQ w r d j k:=a.trans ⟨fun h j=>h j (by omega),fun h j _=>h j⟩
  by_cases hz:(D4 w r (d:Int) 0 st w.duties).1=[]
  · obtain⟨b1,b2⟩:=b hz
    obtain⟨c1,c2⟩:=Amu hro he m (d+1) (D4 w r (d:Int) 0 st w.duties) (by omega) hz b1 b2
    refine⟨c1.trans ⟨fun h j hj hdj k hk=>?_,fun h j hj hdj k hk=>h j hj (by omega) k hk⟩,c2⟩
    by_cases e:(AF w j).day=(d:Int)
    · have:=a'.1 hz j hj e k hk
      rw [e]; exact this
    · exact h j hj (by omega) k hk
  · have hne:(CV w r m (d+1) (D4 w r (d:Int) 0 st w.duties)).1≠[]:=fun h=>by
     obtain⟨e,he⟩:=Aj0 w r m (d+1) (D4 w r (d:Int) 0 st w.duties)
     exact hz (Agl he h)
    refine⟨⟨fun h=>absurd h hne,fun h=>?_⟩,fun h=>absurd h hne⟩
    exact absurd (a'.2 fun j hj hdj k hk=>by
     have:=h j hj (by omega) k hk
     rw [hdj] at this; exact this) hz
theorem Arf {w:Ax} {r:List Int} (hro:E2 w r) (he:Ba w=0):Gu w r=[]↔Vp w r 0∧∀ k,k<w.drivers.length→¬ (AaB w r k 7).used>w.hours:=by
 have h6:=(B5 he).2
 obtain⟨a,b⟩:=Amu hro he 7 0 ([],AS w) rfl rfl (Q6 h6) (fun k _=>rfl)
 rw [OW,a]
 constructor
 · rintro⟨p,q⟩
   exact⟨p,fun k hk=>by rw [← b (a.2 p) k (by omega)]; exact q k hk⟩
 · rintro⟨p,q⟩
   exact⟨p,fun k hk=>by rw [b (a.2 p) k (by omega)]; exact q k hk⟩
def Vq (w:Ax) (r:List Int) (k:Nat):Nat→Int
 | 0=>((AS w).getD k Om).free
 | d+1=>match Cg (IG w r (k:Int) (d:Int)) w.duties.length 0 with
  | some i=>1440*(d:Int)+(AF w i).off.hi
  | none=>Vq w r k d
def UD (w:Ax) (r:List Int) (k:Nat):Nat→Nat
 | 0=>0
 | d+1=>match Cg (IG w r (k:Int) (d:Int)) w.duties.length 0 with
  | some _=>UD w r k d+1
  | none=>0
def Aoz (w:Ax) (r:List Int) (k:Nat):Nat→Int
 | 0=>0
 | d+1=>Aoz w r k d+match Cg (IG w r (k:Int) (d:Int)) w.duties.length 0 with
  | some i=>(AF w i).off.hi-(AF w i).on
  | none=>0
def Acv (w:Ax) (r:List Int) (d:Nat):Prop:=∀ j,j<w.duties.length→(AF w j).day<(d:Int)→∀ k:Nat,r.getD j (-1)=(k:Int)→AdQ w r (AF w j).day.toNat j k
theorem Acv.less {w:Ax} {r:List Int} {d:Nat} (h:Acv w r (d+1)):Acv w r d:=fun j hj hd k hk=>h j hj (by omega) k hk
theorem Agx {w:Ax} (hw:wkOk w) {k:Nat} (hk:k<w.drivers.length):∃ x off,w.drivers[k]=AT.mk [x] [] [] off 0 0∧(AS w).getD k Om=Az.mk off 0 0 (-1):=by
 obtain⟨x,off,e⟩:=hw.2.2.2.2.2.2 _ (Za1 hk)
 refine⟨x,off,e,?_⟩
 unfold AS
 rw [ZaV,Zau (by simpa using hk),ZaQ,Zan hk,e]
 rfl
structure Axb (w:Ax) (r:List Int) (k d:Nat):Prop where
 inv:UC ((d:Int)-1) (AaB w r k d)
 free:(AaB w r k d).free=Vq w r k d
 row:(if (AaB w r k d).day=(d:Int)-1 then(AaB w r k d).row else 0)=(UD w r k d:Int)
 used:(AaB w r k d).used=Aoz w r k d
theorem Agy {w:Ax} {r:List Int} (hw:wkOk w) (he:Ba w=0) {k:Nat} (hk:k<w.drivers.length):∀ d:Nat,d≤7→Acv w r d→Axb w r k d
 | 0,_,_=>by
  obtain⟨x,off,e1,e2⟩:=Agx hw hk
  have hd:=(Acr he).2 _ (Za1 hk)
  rw [e1] at hd
  unfold YA at hd
  rw [Zaq,D8] at hd
  have hd2:=hd.2
  simp only at hd2
  have es:AaB w r k 0=Az.mk off 0 0 (-1):=e2
  refine⟨?_,rfl,?_,?_⟩
  · rw [es]; unfold UC; simp only; omega
  · rw [es]; rfl
  · rw [es]; rfl
 | d+1,hd,hg=>by
  have ih:=Agy hw he hk d (by omega) hg.less
  obtain⟨i1,i2,i3,i4⟩:=ih
  cases hf:Cg (IG w r (k:Int) (d:Int)) w.duties.length 0 with
  | none =>
   have es:AaB w r k (d+1)=AaB w r k d:=by
    show AwH w (AaB w r k d) (Cg (IG w r (k:Int) (d:Int)) w.duties.length 0)=_
    rw [hf]; rfl
   refine⟨?_,?_,?_,?_⟩
   · rw [es]; exact i1.up (by omega)
   · rw [es,i2]; show _=(match Cg (IG w r (k:Int) (d:Int)) w.duties.length 0 with | some i=>_ | none=>_); rw [hf]
   · rw [es]
     have:=i1.2.1
     rw [if_neg (by omega)]
     show _=((match Cg (IG w r (k:Int) (d:Int)) w.duties.length 0 with | some _=>UD w r k d+1 | none=>0:Nat):Int)
     rw [hf]; rfl
   · rw [es,i4]
     show _=Aoz w r k d+(match Cg (IG w r (k:Int) (d:Int)) w.duties.length 0 with | some i=>_ | none=>0)
     rw [hf]; simp
  | some i =>
   obtain⟨_,hi,c,hfst⟩:=IL hf
   rw [Zas] at hi
   have c':=c
   unfold IG at c'
   rw [Zaq,decide_eq_true_eq,decide_eq_true_eq] at c'
   obtain⟨hr,hday⟩:=c'
   have es:AaB w r k (d+1)=Mr (AaB w r k d) (AF w i) (AF w i).off.hi:=by
    show AwH w (AaB w r k d) (Cg (IG w r (k:Int) (d:Int)) w.duties.length 0)=_
    rw [hf]; rfl
   have hgood:=hg i hi (by omega) k hr
   rw [hday,show((d:Int)).toNat=d from rfl] at hgood
   have hdr:=Cq he hi
   obtain⟨d1,d2,d3,d4,d5,d6,d7⟩:=Cd hdr
   have hinv:UC (d:Int) (AaB w r k d):=i1.up (by omega)
   have hdd:=i1.2.1
   have hex:=Agi (e:=(AF w i).off.hi) hinv hdr (by omega) (by omega) (by omega) (by omega)
   have hinv':=AsK hw hinv hdr (by omega) hday hgood.2
   refine⟨?_,?_,?_,?_⟩
   · rw [es,show((d+1:Nat):Int)-1=(d:Int) by omega]; exact hinv'
   · rw [es,hex]
     show(AF w i).day*1440+(AF w i).off.hi=(match Cg (IG w r (k:Int) (d:Int)) w.duties.length 0 with | some i=>1440*(d:Int)+(AF w i).off.hi | none=>Vq w r k d)
     rw [hf]; simp only; omega
   · rw [es,hex]
     show(if (AF w i).day=((d+1:Nat):Int)-1 then(if (AaB w r k d).day=(AF w i).day-1 then(AaB w r k d).row+1 else 1) else 0)=((match Cg (IG w r (k:Int) (d:Int)) w.duties.length 0 with | some _=>UD w r k d+1 | none=>0:Nat):Int)
     rw [hf,if_pos (by omega),hday]
     simp only
     split at i3
     · rename_i h; rw [if_pos h]; omega
     · rename_i h; rw [if_neg h]; omega
   · rw [es,hex]
     show(AaB w r k d).used+((AF w i).off.hi-(AF w i).on)=Aoz w r k d+(match Cg (IG w r (k:Int) (d:Int)) w.duties.length 0 with | some i=>(AF w i).off.hi-(AF w i).on | none=>0)
     rw [hf,i4]
def AuU (w:Ax) (r:List Int) (k j:Nat):Prop:=Ij w (k:Int) (AF w j) Om 0=true∧Cg (IG w r (k:Int) (AF w j).day) w.duties.length 0=some j∧(AF w j).day*1440+(AF w j).on-Vq w r k (AF w j).day.toNat≥600∧UD w r k ((AF w j).day.toNat+1)≤5
theorem Amv {w:Ax} {r:List Int} (hw:wkOk w) (he:Ba w=0) {j k:Nat} (hj:j<w.duties.length) (hk:k<w.drivers.length) (hr:r.getD j (-1)=(k:Int)) (hg:Acv w r (AF w j).day.toNat):AdQ w r (AF w j).day.toNat j k↔AuU w r k j:=by
 have hdr:=Cq he hj
 obtain⟨d1,d2,d3,d4,d5,d6,d7⟩:=Cd hdr
 obtain⟨d,hd⟩:∃ d:Nat,(AF w j).day=d:=⟨(AF w j).day.toNat,by omega⟩
 unfold AuU
 rw [hd] at hg ⊢
 rw [show((d:Int)).toNat=d from rfl] at hg ⊢
 obtain⟨i1,i2,i3,i4⟩:=Agy hw he hk d (by omega) hg
 have hinv:UC (d:Int) (AaB w r k d):=i1.up (by omega)
 have hdd:=i1.2.1
 have hri:=Ajz (k:=(k:Int)) hw hinv hdr (by omega)
 have hon:IG w r (k:Int) (d:Int) j=true:=by
  unfold IG
  rw [hr,hd]; simp
 have hfst:(∀ i,i<j→IG w r (k:Int) (d:Int) i=false)↔Cg (IG w r (k:Int) (d:Int)) w.duties.length 0=some j:=by
  constructor
  · intro h
    exact AfC (by omega) (by omega) hon fun i _ hi=>h i hi
  · intro h i hi
    exact(IL h).2.2.2 i (by omega) hi
 unfold AdQ
 rw [Agj,hri,hfst,Aon w (k:Int) (AF w j) (AaB w r k d) Om,i2,hd]
 constructor
 · rintro⟨p,q,_,s,t⟩
   refine⟨q,p,s,?_⟩
   show(match Cg (IG w r (k:Int) (d:Int)) w.duties.length 0 with | some _=>UD w r k d+1 | none=>0)≤5
   rw [p]
   simp only
   split at i3
   · rename_i h; rw [if_pos h] at t; omega
   · rename_i h; rw [if_neg h] at t; omega
 · rintro⟨q,p,s,t⟩
   refine⟨p,q,by omega,s,?_⟩
   have t':(match Cg (IG w r (k:Int) (d:Int)) w.duties.length 0 with | some _=>UD w r k d+1 | none=>0)≤5:=t
   rw [p] at t'
   simp only at t'
   split at i3
   · rename_i h; rw [if_pos h]; omega
   · rename_i h; rw [if_neg h]; omega
theorem AsS {w:Ax} {r:List Int} (hw:wkOk w) (he:Ba w=0) (hro:E2 w r):Vp w r 0↔∀ j,j<w.duties.length→∀ k:Nat,r.getD j (-1)=(k:Int)→AuU w r k j:=by
 have hkn:∀ j (k:Nat),r.getD j (-1)=(k:Int)→k<w.drivers.length:=fun j k h=>by
  have:=Aa7 hro j
  omega
 constructor
 · intro h j hj k hk
   exact(Amv hw he hj (hkn j k hk) hk fun i hi _ q hq=>h i hi (by have:=(Cd (Cq he hi)).1; omega) q hq).1 (h j hj (by have:=(Cd (Cq he hj)).1; omega) k hk)
 · intro h
   have key:∀ d:Nat,Acv w r d:=by
    intro d
    induction d with
    | zero =>
     intro j hj hd
     have:=(Cd (Cq he hj)).1
     omega
    | succ d ih =>
     intro j hj hd k hk
     by_cases e:(AF w j).day<(d:Int)
     · exact ih j hj e k hk
     · have e2:(AF w j).day.toNat=d:=by omega
       exact(Amv hw he hj (hkn j k hk) hk (by rw [e2]; exact ih)).2 (h j hj k hk)
   intro j hj _ k hk
   exact key 7 j hj (by have:=(Cd (Cq he hj)).2.1; omega) k hk
def Nt (f:Nat→Int):Nat→Nat→Int
 | 0,_=>0
 | m+1,s=>f s+Nt f m (s+1)
theorem Amw (f g:Nat→Int):∀ m s,Nt (fun i=>f i+g i) m s=Nt f m s+Nt g m s
 | 0,_=>by simp [Nt]
 | m+1,s=>by simp only [Nt]; rw [Amw f g m]; omega
theorem Td {f g:Nat→Int}:∀ {m s:Nat},(∀ i,s≤i→i<s+m→f i=g i)→Nt f m s=Nt g m s
 | 0,_,_=>rfl
 | m+1,s,h=>by
  simp only [Nt]
  rw [h s (by omega) (by omega),Td fun i h1 h2=>h i (by omega) (by omega)]
theorem Acw:∀ m s,Nt (fun _=>0) m s=0
 | 0,_=>rfl
 | m+1,s=>by simp only [Nt]; rw [Acw m]; rfl
theorem Amx {P:Nat→Bool} {x:Nat→Int} (hu:∀ i j,i<j→P i=true→P j=false):∀ m s,Nt (fun i=>bif P i then x i else 0) m s=match Cg P m s with
  | some i=>x i
  | none=>0
 | 0,_=>rfl
 | m+1,s=>by
  simp only [Nt]
  unfold Cg
  cases hp:P s with
  | true =>
   simp only [Zab]
   rw [Td (g:=fun _=>0) fun i h1 h2=>by rw [hu s i (by omega) hp]; rfl,Acw]
   omega
  | false =>
   simp only [Zad]
   rw [Amx hu m (s+1)]
   omega
def YG (w:Ax) (r:List Int) (k:Nat) (i:Nat):Int:=bif decide (r.getD i (-1)=(k:Int)) then(AF w i).off.hi-(AF w i).on else 0
def AsT (w:Ax) (r:List Int) (k:Nat):Nat→Nat→Int
 | 0,_=>0
 | d+1,i=>AsT w r k d i+(bif IG w r (k:Int) (d:Int) i then(AF w i).off.hi-(AF w i).on else 0)
theorem Amy {w:Ax} (r:List Int) (k:Nat) {i:Nat} (h0:0≤(AF w i).day):∀ d:Nat,AsT w r k d i=if (AF w i).day<(d:Int) then YG w r k i else 0
 | 0=>by rw [if_neg (by omega)]; rfl
 | d+1=>by
  show AsT w r k d i+_=_
  rw [Amy r k h0 d]
  unfold YG IG
  by_cases h1:r.getD i (-1)=(k:Int)
  · rw [Zaf h1]
    by_cases h2:(AF w i).day=(d:Int)
    · rw [Zaf h2,if_neg (by omega),if_pos (by omega)]; simp
    · rw [Zae h2]
      by_cases h3:(AF w i).day<(d:Int)
      · rw [if_pos h3,if_pos (by omega)]; simp
      · rw [if_neg h3,if_neg (by omega)]; simp
  · rw [Zae h1]
    simp
theorem AuV {w:Ax} {r:List Int} (he:Ba w=0) {k:Nat} (hg:Vp w r 0):Nt (YG w r k) w.duties.length 0=Aoz w r k 7:=by
 have hu:∀ d:Nat,∀ i j,i<j→IG w r (k:Int) (d:Int) i=true→j<w.duties.length→IG w r (k:Int) (d:Int) j=false:=fun d i j hij hi hj=>by
  cases hb:IG w r (k:Int) (d:Int) j with
  | false=>rfl
  | true =>
   have hb':=hb
   unfold IG at hb'
   rw [Zaq,decide_eq_true_eq,decide_eq_true_eq] at hb'
   have:=(hg j hj (by omega) k hb'.1).1 i hij
   rw [hb'.2,show((d:Int)).toNat=d from rfl,hi] at this
   cases this
 have hday:∀ d:Nat,Nt (AsT w r k d) w.duties.length 0=Aoz w r k d:=by
  intro d
  induction d with
  | zero=>exact Acw _ _
  | succ d ih =>
   show Nt (fun i=>AsT w r k d i+_) _ _=Aoz w r k d+_
   rw [Amw,ih]
   congr 1
   have e:Nt (fun i=>bif IG w r (k:Int) (d:Int) i then(AF w i).off.hi-(AF w i).on else 0) w.duties.length 0=Nt (fun i=>bif (IG w r (k:Int) (d:Int) i && decide (i<w.duties.length)) then(AF w i).off.hi-(AF w i).on else 0) w.duties.length 0:=Td fun i _ hi=>by
    rw [Zaf (show i<w.duties.length by omega),Bool.and_true]
   rw [e,Amx (P:=fun i=>IG w r (k:Int) (d:Int) i && decide (i<w.duties.length)) (x:=fun i=>(AF w i).off.hi-(AF w i).on) fun i j hij hi=>by
    rw [Zaq] at hi
    by_cases hj:j<w.duties.length
    · rw [hu d i j hij hi.1 hj]; rfl
    · rw [Zae hj,Bool.and_false]]
   have ef:Cg (fun i=>IG w r (k:Int) (d:Int) i && decide (i<w.duties.length)) w.duties.length 0=Cg (IG w r (k:Int) (d:Int)) w.duties.length 0:=by
    cases hf:Cg (IG w r (k:Int) (d:Int)) w.duties.length 0 with
    | none=>exact IJ.2 fun j h1 h2=>by rw [IJ.1 hf j h1 h2]; rfl
    | some j =>
     obtain⟨a,b,c,q⟩:=IL hf
     exact AfC a b (by rw [c,Zaf (show j<w.duties.length by omega)]; rfl) fun i h1 h2=>by rw [q i h1 h2]; rfl
   rw [ef]
 rw [← hday 7]
 refine Td fun i _ hi=>?_
 obtain⟨q0,q6,_⟩:=Cd (Cq he (show i<w.duties.length by omega))
 rw [Amy r k q0 7,if_pos (by omega)]
theorem Arg {w:Ax} {r:List Int} (hw:wkOk w) (he:Ba w=0) (hro:E2 w r):Gu w r=[]↔(∀ j,j<w.duties.length→∀ k:Nat,r.getD j (-1)=(k:Int)→AuU w r k j)∧∀ k,k<w.drivers.length→¬ Nt (YG w r k) w.duties.length 0>w.hours:=by
 rw [Arf hro he,← AsS hw he hro]
 have hkey:Vp w r 0→∀ k,k<w.drivers.length→(AaB w r k 7).used=Nt (YG w r k) w.duties.length 0:=fun hg k hk=>by
  rw [AuV he hg]
  exact(Agy hw he hk 7 (Zap _) fun j hj _ q hq=>hg j hj (by have:=(Cd (Cq he hj)).1; omega) q hq).used
 constructor
 · rintro⟨p,q⟩
   exact⟨p,fun k hk=>by rw [← hkey p k hk]; exact q k hk⟩
 · rintro⟨p,q⟩
   exact⟨p,fun k hk=>by rw [hkey p k hk]; exact q k hk⟩
theorem Ao0 (n:Nat) (lo hi:Int):C4 (n+1) [] lo hi=some (true,()):=rfl
theorem Ao1 (n:Nat) (k lo hi:Int):C4 (n+2) [k] lo hi=some (Cp k lo hi,()):=by
 unfold C4
 rw [show GZ (n+2) [k] lo hi 0=((AU (n+1) k lo hi).bind fun v1=>bif !!v1.fst then(some (.inl ())) else some (.inr (false,()))) from rfl,AaA]
 cases Cp k lo hi <;> rfl
theorem Agz {n:Nat} {w:Ax} (hw:wkOk w) (hn:30<n):GR n w=some (Ba w,()):=by
 obtain⟨h1,h2,h3,h4,h5,h6,h7⟩:=hw
 unfold GR Ba
 by_cases h12:12<w.duties.length
 · rw [show decide ((w.duties.length:Int)>12)=true from Zaf (by omega),if_pos h12]; rfl
 · rw [show decide ((w.duties.length:Int)>12)=false from Zae (by omega),if_neg h12]
   by_cases hd6:6<w.drivers.length
   · rw [show decide ((w.drivers.length:Int)>6)=true from Zaf (by omega),if_pos hd6]; rfl
   · rw [show decide ((w.drivers.length:Int)>6)=false from Zae (by omega),if_neg hd6]
     simp only [AaA,h1,h2,h3,h4,Za4,Zab,Zad,Zaa]
     obtain⟨s1,s2⟩:=Gt (F:=fun n i=>E0 n w i) (G:=fun n i v0=>(AU n v0.day 0 (IntKind.i64.wrap (w.days-1))).bind fun v1=>bif !!v1.fst then((AU n v0.on 0 1439).bind fun v2=>bif !!v2.fst then((AU n v0.off.lo v0.on v0.off.hi).bind fun v3=>bif !!v3.fst then(bif !decide (v0.off.hi>IntKind.i64.wrap (v0.on+1440)) then((AU n v0.route 0 15).bind fun v4=>bif !v4.fst then(some (.inr (w,(1,())))) else E0 n w (IntKind.i64.wrap (i+1))) else some (.inr (w,(1,())))) else some (.inr (w,(1,())))) else some (.inr (w,(1,())))) else some (.inr (w,(1,())))) w.duties KN (w,((),())) (fun _=>(w,(1,()))) 0 (by omega) (fun _ _=>rfl) (fun n i hi _=>by
      generalize w.duties[i]=d
      rw [h1,show IntKind.i64.wrap (7-1)=6 from rfl]
      unfold KN
      simp only [AaA,Zaa]
      cases hb1:Cp d.day 0 6 with
      | false=>rfl
      | true =>
       cases hb2:Cp d.on 0 1439 with
       | false=>rfl
       | true =>
        have:=D8.1 hb2
        rw [Bv (x:=d.on+1440) (by omega) (by omega)]
        have hlo:Cp d.off.lo d.on d.off.hi=(decide (d.on≤d.off.lo) && decide (d.off.lo≤d.off.hi)):=rfl
        rw [hlo]
        have hhi:decide (d.off.hi>d.on+1440)=!decide (d.off.hi≤d.on+1440):=by
         rw [Bool.eq_iff_iff]; simp
        rw [hhi]
        cases decide (d.on≤d.off.lo) <;> cases decide (d.off.lo≤d.off.hi) <;> cases decide (d.off.hi≤d.on+1440) <;> cases Cp d.route 0 15 <;> rfl) (n:=n) (by omega)
     obtain⟨t1,t2⟩:=Gt (F:=fun n i=>Hl n w i) (G:=fun n i v0=>(C4 n v0.knows 0 15).bind fun v1=>bif !!v1.fst then((C4 n v0.leave 0 (IntKind.i64.wrap (w.days-1))).bind fun v2=>bif !!v2.fst then((C4 n v0.wish 0 (IntKind.i64.wrap (w.days-1))).bind fun v3=>bif !!v3.fst then((AU n v0.off (-10080) 1440).bind fun v4=>bif !!v4.fst then((AU n v0.row 0 14).bind fun v5=>bif !!v5.fst then((AU n v0.used 0 w.hours).bind fun v6=>bif !v6.fst then(some (.inr (w,(1,())))) else Hl n w (IntKind.i64.wrap (i+1))) else some (.inr (w,(1,())))) else some (.inr (w,(1,())))) else some (.inr (w,(1,())))) else some (.inr (w,(1,())))) else some (.inr (w,(1,())))) w.drivers YA (w,()) (fun _=>(w,(1,()))) 2 (by omega) (fun _ _=>rfl) (fun n i hi hn2=>by
      obtain⟨x,off,e⟩:=h7 _ (Za1 hi)
      obtain⟨m,rfl⟩:∃ m,n=m+2:=⟨n-2,by omega⟩
      rw [e,h4]
      unfold YA
      simp only [Ao1,Ao0,AaA,Zaa]
      simp only [ZaU,List.all_nil,Bool.and_true]
      cases Cp x 0 15 <;> cases Cp off (-10080) 1440 <;> rfl) (n:=n) (by omega)
     show(E0 n w 0).bind _=_
     cases ha:w.duties.all KN with
     | false =>
      obtain⟨k,hk⟩:=s2 ha
      rw [hk]; rfl
     | true =>
      rw [s1 ha,Zaa]
      simp only [Za3]
      cases hb:w.drivers.all YA with
      | false =>
       obtain⟨k,hk⟩:=t2 hb
       rw [hk]; rfl
      | true=>rw [t1 hb]; rfl
section
variable {w:Ax} {r:List Int}
theorem AsU {i:Nat} (h:i<r.length):r[i]=r.getD i (-1):=by simp [List.getD,Zan h]
theorem Amz (hro:E2 w r) (hl:w.duties.length≤1000) (k d:Int):∀ (n i:Nat),w.duties.length-i<n→i≤w.duties.length→Ey n r k d w (i:Int)=some (match Cg (IG w r k d) (w.duties.length-i) i with | some j=>.inr (w,((j:Int),())) | none=>.inl (w,()))
 | 0,_,h,_=>absurd h (Zam _)
 | n+1,i,h,hi=>by
  rw [Ey]
  by_cases hx:i<w.duties.length
  · have hxr:i<r.length:=by rw [hro.1]; exact hx
    have ih:=Amz hro hl k d n (i+1) (by omega) (by omega)
    obtain⟨m,hm⟩:∃ m,w.duties.length-i=m+1:=⟨w.duties.length-i-1,by omega⟩
    rw [show w.duties.length-(i+1)=m by omega] at ih
    rw [show decide ((i:Int)<(w.duties.length:Int))=true by simp; omega,Zab,BS hxr,Zaa,BS hx,wN i (by omega),hm,ih,AsU hxr,← OY hx]
    have e1:Cg (IG w r k d) (m+1) i=bif IG w r k d i then some i else Cg (IG w r k d) m (i+1):=rfl
    have e2:IG w r k d i=(decide (r.getD i (-1)=k) && decide ((AF w i).day=d)):=rfl
    rw [e1,e2]
    cases decide (r.getD i (-1)=k) with
    | false=>rfl
    | true =>
     cases hdd:decide ((AF w i).day=d) with
     | false=>simp only [Zab,Zaa,hdd,Zad,Bool.and_false]
     | true=>simp only [Zab,Zaa,hdd,Zb0]
  · rw [show decide ((i:Int)<(w.duties.length:Int))=false by simp; omega,show w.duties.length-i=0 by omega]; rfl
def AuW:Option Nat→Int
 | some j=>(j:Int)
 | none=>-1
theorem Vr {n:Nat} (hro:E2 w r) (hl:w.duties.length≤20) (k d:Int) (hn:20<n):C5 n w r k d=some (AuW (Cg (IG w r k d) w.duties.length 0),()):=by
 unfold C5
 have h:=Amz hro (by omega) k d n 0 (by omega) (by omega)
 rw [show((0:Nat):Int)=0 from rfl,Zbr] at h
 rw [h]
 cases Cg (IG w r k d) w.duties.length 0 <;> rfl
theorem AuX (n:Nat) (x c:Int):MW (n+2) [x] c=some (decide (x=c),()):=by
 unfold MW
 rw [show Np (n+2) [x] c 0=(bif decide (x=c) then(some (.inr (true,()))) else some (.inl ())) from rfl]
 cases decide (x=c) <;> rfl
theorem AuY (n:Nat) (c:Int):MW (n+1) [] c=some (false,()):=rfl
abbrev Te (w:Ax):List Int:=w.duties.map fun d=>d.off.hi
theorem ApO (hro:E2 w r) (hw:wkOk w) (he:Ba w=0) {k:Nat} (hk:k<w.drivers.length):∀ (d n:Nat),d≤7→30+d<n→((Gm n r (Te w) (k:Int) w ((d:Int)-1)).bind fun v0=>Sum.elim (fun v1=>(A3 v1.fst.drivers v1.snd.fst).bind fun v2=>some (v2.off,())) (fun v1=>some (v1.snd.fst,())) (v0))=some (Vq w r k d,())
 | _,0,_,h=>absurd h (Zam _)
 | 0,n+1,hd,h=>by
  obtain⟨x,off,e1,e2⟩:=Agx hw hk
  rw [Gm,show decide ((((0:Nat):Int)-1)≥0)=false from rfl,Zad,Zaa]
  simp only [Za3]
  rw [BS hk,Zaa,e1]
  show _=some (((AS w).getD k Om).free,())
  rw [e2]
 | d+1,n+1,hd,h=>by
  have h12:=(B5 he).1
  have ih:=ApO hro hw he hk d n (by omega) (by omega)
  rw [Gm,show((d+1:Nat):Int)-1=(d:Int) by omega,Zaf (show(d:Int)≥0 by omega),Zab]
  show _=some ((match Cg (IG w r (k:Int) (d:Int)) w.duties.length 0 with | some i=>1440*(d:Int)+(AF w i).off.hi | none=>Vq w r k d),())
  cases hf:Cg (IG w r (k:Int) (d:Int)) w.duties.length 0 with
  | none =>
   rw [show C5 n w r (k:Int) (d:Int)=some (-1,()) from(Vr hro (by omega) _ _ (by omega)).trans (by rw [hf]; rfl),Zaa]
   simp only
   rw [show decide ((-1:Int)≥0)=false from rfl,Zad,Bv (by omega) (by omega)]
   exact ih
  | some j =>
   obtain⟨_,hj,_,_⟩:=IL hf
   rw [Zas] at hj
   have hjl:j<(Te w).length:=by simp; exact hj
   obtain⟨q0,q1,q2,q3,q4,q5,q6⟩:=Cd (Cq he hj)
   rw [show C5 n w r (k:Int) (d:Int)=some ((j:Int),()) from(Vr hro (by omega) _ _ (by omega)).trans (by rw [hf]; rfl),Zaa]
   simp only
   rw [Zaf (show(j:Int)≥0 by omega),Zab,BS hjl,Zaa,Zaa]
   simp only [Sum.elim_inr]
   have e:(Te w)[j]=(AF w j).off.hi:=by rw [OY hj]; simp
   rw [e,Bv (x:=1440*(d:Int)) (by omega) (by omega),Bv (by omega) (by omega)]
theorem AuZ {n:Nat} (hro:E2 w r) (hw:wkOk w) (he:Ba w=0) {k:Nat} (hk:k<w.drivers.length) {d:Nat} (hd:d≤7) (hn:40<n):Rb n w r (Te w) (k:Int) (d:Int)=some (Vq w r k d,()):=by
 unfold Rb
 rw [Bv (x:=(d:Int)-1) (by omega) (by omega)]
 exact ApO hro hw he hk d n hd (by omega)
theorem Am0 (hro:E2 w r) (hw:wkOk w) (he:Ba w=0) {k:Nat} (hk:k<w.drivers.length):∀ (d n c:Nat),d≤7→30+d<n→c+d≤100→((Ez n r (k:Int) ((d:Int)-1) w (c:Int)).bind fun v0=>bif decide (v0.snd.snd.fst<0) then((A3 v0.fst.drivers v0.snd.fst).bind fun v1=>some (IntKind.i64.wrap (v0.snd.snd.snd.snd.fst+v1.row),())) else some (v0.snd.snd.snd.snd.fst,()))=some (((c+UD w r k d:Nat):Int),())
 | _,0,_,_,h,_=>absurd h (Zam _)
 | 0,n+1,c,hd,h,hc=>by
  obtain⟨x,off,e1,e2⟩:=Agx hw hk
  rw [Ez,show decide ((((0:Nat):Int)-1)≥0)=false from rfl,Zad,Zaa]
  simp only
  rw [show decide ((((0:Nat):Int)-1)<0)=true from rfl,Zab,BS hk,Zaa,e1]
  simp only
  rw [Bv (by omega) (by omega)]
  show some ((c:Int)+0,())=some (((c+0:Nat):Int),())
  rw [Int.add_zero,Zbo]
 | d+1,n+1,c,hd,h,hc=>by
  have h12:=(B5 he).1
  rw [Ez,show((d+1:Nat):Int)-1=(d:Int) by omega,Zaf (show(d:Int)≥0 by omega),Zab]
  show _=some (((c+(match Cg (IG w r (k:Int) (d:Int)) w.duties.length 0 with | some _=>UD w r k d+1 | none=>0):Nat):Int),())
  cases hf:Cg (IG w r (k:Int) (d:Int)) w.duties.length 0 with
  | none =>
   rw [show C5 n w r (k:Int) (d:Int)=some (-1,()) from(Vr hro (by omega) _ _ (by omega)).trans (by rw [hf]; rfl),Zaa]
   simp only
   rw [show decide ((-1:Int)≥0)=false from rfl,Zad,Zaa]
   simp only
   rw [Zae (show ¬ (d:Int)<0 by omega),Zad,Zbo]
  | some j =>
   rw [show C5 n w r (k:Int) (d:Int)=some ((j:Int),()) from(Vr hro (by omega) _ _ (by omega)).trans (by rw [hf]; rfl),Zaa]
   simp only
   rw [Zaf (show(j:Int)≥0 by omega),Zab,Bv (x:=(d:Int)-1) (by omega) (by omega),wN c (by omega)]
   rw [Am0 hro hw he hk d n (c+1) (by omega) (by omega) (by omega),show c+1+UD w r k d=c+(UD w r k d+1) by omega]
end
section
variable {w:Ax} {r:List Int}
theorem AsV {n:Nat} (hro:E2 w r) (hw:wkOk w) (he:Ba w=0) {k:Nat} (hk:k<w.drivers.length) {d:Nat} (hd:d≤6) (hn:50<n):OD n w r (k:Int) (d:Int)=some ((UD w r k (d+1):Int),()):=by
 unfold OD
 have h:=Am0 hro hw he hk (d+1) n 0 (by omega) (by omega) (by omega)
 rw [show((d+1:Nat):Int)-1=(d:Int) by omega,show((0:Nat):Int)=0 from rfl,Zas] at h
 exact h
def AvM (w:Ax) (r:List Int) (c k j:Nat):Bool:=decide (r.getD j (-1)=(k:Int)) && match c with
 | 0=>!Ij w (k:Int) (AF w j) Om 0
 | 1=>false
 | 2=>!decide (Cg (IG w r (k:Int) (AF w j).day) w.duties.length 0=some j)
 | 3=>decide (Cg (IG w r (k:Int) (AF w j).day) w.duties.length 0=some j) && decide ((AF w j).day*1440+(AF w j).on-Vq w r k (AF w j).day.toNat<600)
 | _=>decide (Cg (IG w r (k:Int) (AF w j).day) w.duties.length 0=some j) && decide (UD w r k ((AF w j).day.toNat+1)>5)
theorem Ag0 (he:Ba w=0) (hw:wkOk w) {k:Nat} (hk:k<w.drivers.length):∀ d:Nat,d≤7→-20000≤Vq w r k d∧Vq w r k d≤20000
 | 0,_=>by
  have:=Aoo hw he k
  show -20000≤((AS w).getD k Om).free∧((AS w).getD k Om).free≤20000
  exact this.2.2.2.2.2.2
 | d+1,hd=>by
  have ih:=Ag0 he hw hk d (by omega)
  show -20000≤(match Cg (IG w r (k:Int) (d:Int)) w.duties.length 0 with | some i=>1440*(d:Int)+(AF w i).off.hi | none=>Vq w r k d)∧(match Cg (IG w r (k:Int) (d:Int)) w.duties.length 0 with | some i=>1440*(d:Int)+(AF w i).off.hi | none=>Vq w r k d)≤20000
  cases hf:Cg (IG w r (k:Int) (d:Int)) w.duties.length 0 with
  | none=>exact ih
  | some i =>
   obtain⟨_,hi,_,_⟩:=IL hf
   obtain⟨q0,q1,q2,q3,q4,q5,q6⟩:=Cd (Cq he (show i<w.duties.length by omega))
   simp only
   omega
theorem AsW (o:Option Nat) (j:Nat):decide (AuW o=(j:Int))=decide (o=some j):=by
 cases o with
 | none=>rfl
 | some i =>
  by_cases e:i=j
  · subst e; simp [AuW]
  · rw [Zae (show ¬ AuW (some i)=(j:Int) by show ¬ (i:Int)=(j:Int); omega),Zae (by simpa using e)]
theorem Arh {n:Nat} (hro:E2 w r) (hw:wkOk w) (he:Ba w=0) {c k j:Nat} (hc:c<5) (hk:k<w.drivers.length) (hj:j<w.duties.length) (hn:60<n):Fz n w r (Te w) (IK.mk (c:Int)) (k:Int) (j:Int)=some (AvM w r c k j,()):=by
 have h12:=(B5 he).1
 have hjr:j<r.length:=by rw [hro.1]; exact hj
 obtain⟨x,off,e1,e2⟩:=Agx hw hk
 obtain⟨q0,q1,q2,q3,q4,q5,q6⟩:=Cd (Cq he hj)
 obtain⟨d,hd⟩:∃ d:Nat,(AF w j).day=d:=⟨(AF w j).day.toNat,by omega⟩
 unfold Fz AvM
 rw [Zae (show ¬ (IK.mk (c:Int):IK .u8).n=5 by show ¬ (c:Int)=5; omega),Zad,BS hjr,Zaa,AsU hjr]
 by_cases hr:r.getD j (-1)=(k:Int)
 · rw [show(r.getD j (-1) != (k:Int))=false by rw [hr]; simp,Zad,BS hj,Zaa,BS hk,Zaa,← OY hj,Vr hro (by omega) _ _ (by omega),Zaa,Zaf hr,ZaJ]
   simp only
   rw [AsW]
   obtain⟨m,rfl⟩:∃ m,n=m+2:=⟨n-2,by omega⟩
   rw [e1]
   simp only
   rw [AuX,AuY,hd,AuZ hro hw he hk (show d≤7 by omega) (by omega),AsV hro hw he hk (show d≤6 by omega) (by omega),show((d:Int)).toNat=d from rfl]
   have hfb:=Ag0 (r:=r) he hw hk d (by omega)
   have hru:Ij w (k:Int) (AF w j) Om 0=decide (x=(AF w j).route):=by
    show(match A3 w.drivers (k:Int) with | some v=>v.knows.any fun x=>decide ((AF w j).route=x) | none=>true)=_
    rw [BS hk,e1]
    simp only [Zb1,List.any_nil,Bool.or_false]
    rw [Bool.eq_iff_iff]
    simp only [decide_eq_true_eq]
    exact⟨fun h=>h.symm,fun h=>h.symm⟩
   rcases c with _ | _ | _ | _ | _ | c
   · rw [hru]; rfl
   · rfl
   · rfl
   · simp only [Zaa]
     rw [Bv (x:=1440*(d:Int)) (by omega) (by omega),Bv (x:=1440*(d:Int)+(AF w j).on) (by omega) (by omega),Bv (by omega) (by omega),hw.2.1,show 1440*(d:Int)+(AF w j).on-Vq w r k d=(d:Int)*1440+(AF w j).on-Vq w r k d by omega]
     show(bif decide (Cg (IG w r (k:Int) (d:Int)) w.duties.length 0=some j) then some (decide ((d:Int)*1440+(AF w j).on-Vq w r k d<600),()) else some (false,()))=_
     cases decide (Cg (IG w r (k:Int) (d:Int)) w.duties.length 0=some j) <;> rfl
   · simp only [Zaa]
     rw [hw.2.2.1]
     have hro5:decide ((UD w r k (d+1):Int)>5)=decide (UD w r k (d+1)>5):=by
      rw [Bool.eq_iff_iff]
      simp only [decide_eq_true_eq]
      omega
     rw [hro5]
     show(bif decide (Cg (IG w r (k:Int) (d:Int)) w.duties.length 0=some j) then some (decide (UD w r k (d+1)>5),()) else some (false,()))=_
     cases decide (Cg (IG w r (k:Int) (d:Int)) w.duties.length 0=some j) <;> rfl
   · omega
 · rw [show(r.getD j (-1) != (k:Int))=true by simpa using hr,Zae hr]; rfl
theorem Ao2 (hro:E2 w r) (he:Ba w=0) (k:Nat):∀ (n i:Nat)(s:Int),w.duties.length-i<n→i≤w.duties.length→-100000≤s→s≤1440*(i:Int)→0≤s→D5 n r (Te w) (k:Int) w s (i:Int)=some (w,((),(s+Nt (YG w r k) (w.duties.length-i) i,())))
 | 0,_,_,h,_,_,_,_=>absurd h (Zam _)
 | n+1,i,s,h,hi,h0,h1,h2=>by
  have h12:=(B5 he).1
  rw [D5]
  by_cases hx:i<w.duties.length
  · have hxr:i<r.length:=by rw [hro.1]; exact hx
    have hxl:i<(Te w).length:=by simpa using hx
    obtain⟨m,hm⟩:∃ m,w.duties.length-i=m+1:=⟨w.duties.length-i-1,by omega⟩
    obtain⟨q0,q1,q2,q3,q4,q5,q6⟩:=Cd (Cq he hx)
    have e:(Te w)[i]=(AF w i).off.hi:=by rw [OY hx]; simp
    have es:Nt (YG w r k) (m+1) i=YG w r k i+Nt (YG w r k) m (i+1):=rfl
    rw [show decide ((i:Int)<(w.duties.length:Int))=true by simp; omega,Zab,BS hxr,Zaa,BS hxl,Zaa,BS hx,Zaa,wN i (by omega),AsU hxr,← OY hx,e,hm,es]
    unfold YG
    by_cases hr:r.getD i (-1)=(k:Int)
    · rw [Zaf hr,Zab,Bv (x:=(AF w i).off.hi-(AF w i).on) (by omega) (by omega),Bv (by omega) (by omega),Ao2 hro he k n (i+1) _ (by omega) (by omega) (by omega) (by omega) (by omega),show w.duties.length-(i+1)=m by omega]
      simp only [Zab]
      unfold YG
      rw [Int.add_assoc]
    · rw [Zae hr,Zad,Ao2 hro he k n (i+1) _ (by omega) (by omega) (by omega) (by omega) (by omega),show w.duties.length-(i+1)=m by omega]
      simp only [Zad]
      unfold YG
      rw [Int.zero_add]
  · rw [show decide ((i:Int)<(w.duties.length:Int))=false by simp; omega,show w.duties.length-i=0 by omega]
    show some (w,((),(s,())))=some (w,((),(s+0,())))
    rw [Int.add_zero]
theorem Ao3 {n:Nat} (hro:E2 w r) (hw:wkOk w) (he:Ba w=0) {k:Nat} (hk:k<w.drivers.length) (hn:60<n):Fz n w r (Te w) (IK.mk 5) (k:Int) 0=some (decide (Nt (YG w r k) w.duties.length 0>w.hours),()):=by
 have h12:=(B5 he).1
 obtain⟨x,off,e1,e2⟩:=Agx hw hk
 unfold Fz
 rw [show decide ((IK.mk 5:IK .u8).n=5)=true from rfl,Zab,BS hk,Zaa,e1]
 simp only
 have h:=Ao2 hro he k n 0 0 (by omega) (by omega) (by omega) (by omega) (by omega)
 rw [show((0:Nat):Int)=0 from rfl,Zbr,Int.zero_add] at h
 rw [h,Zaa]
theorem Acx (hro:E2 w r) (hw:wkOk w) (he:Ba w=0) {c k:Nat} (hc:c<5) (hk:k<w.drivers.length):∀ (n j:Nat)(out:List Aw),70+(w.duties.length-j)<n→j≤w.duties.length→out.length+(w.duties.length-j)≤10000→∃ e,D6 n r (Te w) w out (k:Int) (IK.mk (c:Int)) (j:Int)=some (w,(r,(Te w,((),(out++e,((k:Int),(IK.mk (c:Int),())))))))∧(e=[]↔∀ i,j≤i→i<w.duties.length→AvM w r c k i=false)∧e.length≤w.duties.length-j
 | 0,_,_,h,_,_=>absurd h (Zam _)
 | n+1,j,out,h,hj,ho=>by
  have h12:=(B5 he).1
  rw [D6]
  by_cases hx:j<w.duties.length
  · rw [show decide ((j:Int)<(w.duties.length:Int))=true by simp; omega,Zab,Arh hro hw he hc hk hx (by omega),Zaa,wN j (by omega)]
    simp only
    cases hb:AvM w r c k j with
    | false =>
     obtain⟨e,h1,h2,h3⟩:=Acx hro hw he hc hk n (j+1) out (by omega) (by omega) (by omega)
     rw [Zad,h1]
     refine⟨e,rfl,h2.trans ⟨fun hh i q1 q2=>?_,fun hh i q1 q2=>hh i (by omega) q2⟩,by omega⟩
     by_cases hi:i=j
     · rw [hi]; exact hb
     · exact hh i (by omega) q2
    | true =>
     obtain⟨e,h1,h2,h3⟩:=Acx hro hw he hc hk n (j+1) (out++[Aw.mk (IK.mk (c:Int)) (k:Int) (j:Int)]) (by omega) (by omega) (by simp; omega)
     rw [Zab,AH (by simp; omega),Zaa,h1]
     refine⟨Aw.mk (IK.mk (c:Int)) (k:Int) (j:Int)::e,by simp,⟨fun hh=>by simp at hh,fun hh=>?_⟩,by simp; omega⟩
     rw [hh j (by omega) hx] at hb; cases hb
  · rw [show decide ((j:Int)<(w.duties.length:Int))=false by simp; omega]
    exact⟨[],by simp,⟨fun _ i q1 q2=>by omega,fun _=>rfl⟩,by simp⟩
theorem Aj9 (hro:E2 w r) (hw:wkOk w) (he:Ba w=0) {k:Nat} (hk:k<w.drivers.length):∀ (n c:Nat)(out:List Aw),90+(5-c)<n→c≤5→out.length≤8000+12*c→∃ e,Gn n r (Te w) w out (k:Int) (IK.mk (c:Int))=some (w,(r,(Te w,((),(out++e,((k:Int),()))))))∧(e=[]↔∀ c',c≤c'→c'<5→∀ i,i<w.duties.length→AvM w r c' k i=false)∧e.length≤(5-c)*12
 | 0,_,_,h,_,_=>absurd h (Zam _)
 | n+1,c,out,h,hc,ho=>by
  have h12:=(B5 he).1
  rw [Gn]
  by_cases hx:c<5
  · obtain⟨e,h1,h2,h3⟩:=Acx hro hw he hx hk n 0 out (by omega) (by omega) (by omega)
    rw [show((0:Nat):Int)=0 from rfl] at h1
    have hw8:IntKind.u8.wrap ((c:Int)+1)=((c+1:Nat):Int):=by
     rcases c with _ | _ | _ | _ | _ | c
     · rfl
     · rfl
     · rfl
     · rfl
     · rfl
     · omega
    obtain⟨e',g1,g2,g3⟩:=Aj9 hro hw he hk n (c+1) (out++e) (by omega) (by omega) (by simp; omega)
    rw [Zaf (show(IK.mk (c:Int):IK .u8).n<5 by show(c:Int)<5; omega),Zab,h1,Zaa]
    simp only
    rw [hw8,g1]
    refine⟨e++e',by simp,?_,by rw [Zat]; omega⟩
    rw [Zbs,h2,g2]
    constructor
    · rintro⟨p,q⟩ c' a b i hi
      by_cases hcc:c' = c
      · rw [hcc]; exact p i (by omega) hi
      · exact q c' (by omega) b i hi
    · intro hh
      exact⟨fun i _ hi=>hh c (by omega) hx i hi,fun c' a b i hi=>hh c' (by omega) b i hi⟩
  · rw [Zae (show ¬ (IK.mk (c:Int):IK .u8).n<5 by show ¬ (c:Int)<5; omega)]
    exact⟨[],by simp,⟨fun _ c' a b=>by omega,fun _=>rfl⟩,by simp⟩
theorem Acy (hro:E2 w r) (hw:wkOk w) (he:Ba w=0):∀ (n k:Nat)(out:List Aw),110+(w.drivers.length-k)<n→k≤w.drivers.length→out.length≤61*k→∃ e,D7 n r (Te w) w out (k:Int)=some (w,(out++e,()))∧(e=[]↔∀ k',k≤k'→k'<w.drivers.length→(∀ c,c<5→∀ i,i<w.duties.length→AvM w r c k' i=false)∧¬ Nt (YG w r k') w.duties.length 0>w.hours)
 | 0,_,_,h,_,_=>absurd h (Zam _)
 | n+1,k,out,h,hk,ho=>by
  have h6:=(B5 he).2
  rw [D7]
  by_cases hx:k<w.drivers.length
  · obtain⟨e,h1,h2,h3⟩:=Aj9 hro hw he hx n 0 out (by omega) (by omega) (by omega)
    rw [show((0:Nat):Int)=0 from rfl] at h1
    rw [show decide ((k:Int)<(w.drivers.length:Int))=true by simp; omega,Zab,h1,Zaa]
    simp only
    rw [Ao3 hro hw he hx (by omega),Zaa,wN k (by omega)]
    simp only
    by_cases hs:Nt (YG w r k) w.duties.length 0>w.hours
    · rw [Zaf hs,Zab,AH (by simp; omega),Zaa]
      obtain⟨e',g1,g2⟩:=Acy hro hw he n (k+1) (out++e++[Aw.mk (IK.mk 5) (k:Int) 0]) (by omega) (by omega) (by simp; omega)
      rw [g1]
      refine⟨e++[Aw.mk (IK.mk 5) (k:Int) 0]++e',by simp,⟨fun hh=>by simp at hh,fun hh=>absurd hs (hh k (by omega) hx).2⟩⟩
    · rw [Zae hs,Zad]
      obtain⟨e',g1,g2⟩:=Acy hro hw he n (k+1) (out++e) (by omega) (by omega) (by simp; omega)
      rw [g1]
      refine⟨e++e',by simp,?_⟩
      rw [Zbs,h2,g2]
      constructor
      · rintro⟨p,q⟩ k' a b
        by_cases hkk:k' = k
        · rw [hkk]; exact⟨fun c hc i hi=>p c (by omega) hc i hi,hs⟩
        · exact q k' (by omega) b
      · intro hh
        exact⟨fun c _ hc i hi=>(hh k (by omega) hx).1 c hc i hi,fun k' a b=>hh k' (by omega) b⟩
  · rw [show decide ((k:Int)<(w.drivers.length:Int))=false by simp; omega]
    exact⟨[],by simp,⟨fun _ k' a b=>by omega,fun _=>rfl⟩⟩
theorem AjA (w:Ax) (hl:w.duties.length≤1000):∀ (n i:Nat),w.duties.length-i<n→i≤w.duties.length→Gk n w ((Te w).take i) (i:Int)=some (w,(Te w,()))
 | 0,_,h,_=>absurd h (Zam _)
 | n+1,i,h,hi=>by
  rw [Gk]
  by_cases hx:i<w.duties.length
  · have hxl:i<(Te w).length:=by simpa using hx
    rw [show decide ((i:Int)<(w.duties.length:Int))=true by simp; omega,Zab,BS hx,Zaa,AH (by rw [ZaE]; simp; omega),Zaa,wN i (by omega)]
    have:(Te w).take i++[w.duties[i].off.hi]=(Te w).take (i+1):=by
     rw [ZaK hxl]; simp
    rw [this]
    exact AjA w hl n (i+1) (by omega) (by omega)
  · rw [show decide ((i:Int)<(w.duties.length:Int))=false by simp; omega,ZaL (by simp; omega)]; rfl
theorem Ao4 {n:Nat} (hw:wkOk w) (he:Ba w=0) (hro:E2 w r) (hn:200<n):OE n w r=some (decide (Gu w r=[]),()):=by
 have h12:=(B5 he).1
 have h6:=(B5 he).2
 unfold OE RD
 have hL:=AjA w (by omega) n 0 (by omega) (by omega)
 rw [show((0:Nat):Int)=0 from rfl,List.take_zero] at hL
 rw [hL]
 simp only [Zaa]
 unfold RF
 obtain⟨e,h1,h2⟩:=Acy hro hw he n 0 [] (by omega) (by omega) (by simp)
 rw [show((0:Nat):Int)=0 from rfl,Zav] at h1
 rw [h1]
 simp only [Zaa]
 have hiff:Gu w r=[]↔e=[]:=by
  rw [Arg hw he hro,h2]
  constructor
  · rintro⟨p,q⟩ k _ hk
    refine⟨fun c hc i hi=>?_,q k hk⟩
    unfold AvM
    by_cases hr:r.getD i (-1)=(k:Int)
    · obtain⟨a,b,s,t⟩:=p i hi k hr
      rw [Zaf hr,ZaJ]
      rcases c with _ | _ | _ | _ | _ | c
      · show(!Ij w (k:Int) (AF w i) Om 0)=false
        rw [a]; rfl
      · rfl
      · show(!decide (_=some i))=false
        rw [Zaf b]; rfl
      · show(decide (_=some i) && decide ((AF w i).day*1440+(AF w i).on-Vq w r k (AF w i).day.toNat<600))=false
        rw [Zae (show ¬ (AF w i).day*1440+(AF w i).on-Vq w r k (AF w i).day.toNat<600 by omega),Bool.and_false]
      · show(decide (_=some i) && decide (UD w r k ((AF w i).day.toNat+1)>5))=false
        rw [Zae (show ¬ UD w r k ((AF w i).day.toNat+1)>5 by omega),Bool.and_false]
      · omega
    · rw [Zae hr,Bool.false_and]
  · intro hh
    refine⟨fun j hj k hr=>?_,fun k hk=>(hh k (by omega) hk).2⟩
    have hk:k<w.drivers.length:=by
     have:=Aa7 hro j
     omega
    have hb:=fun c hc=>(hh k (by omega) hk).1 c hc j hj
    unfold AvM at hb
    rw [Zaf hr] at hb
    simp only [ZaJ] at hb
    have b0:=hb 0 (by omega)
    have b2:=hb 2 (by omega)
    have b3:=hb 3 (by omega)
    have b4:=hb 4 (by omega)
    simp only at b0 b2 b3 b4
    have c2:Cg (IG w r (k:Int) (AF w j).day) w.duties.length 0=some j:=by simpa using b2
    rw [Zaf c2,ZaJ,decide_eq_false_iff_not] at b3 b4
    exact⟨by simpa using b0,c2,by omega,by omega⟩
 congr 2
 rw [Bool.eq_iff_iff]
 simp only [decide_eq_true_eq]
 rw [hiff]
 constructor
 · intro h
   exact Zb2.1 (by omega)
 · rintro rfl; rfl
end
theorem Ao5 {n:Nat} {s:An} (hg:Gr s) {a b:Int} (hn:100<n):DS n s (B [100,114,105,118,101,114]) [a,b]=some ((AeD s a b).1,((AeD s a b).2,())):=by
 have h6:=hg.drivers
 have h12:=hg.duties
 have hw:wkOk (J8 s.week a b):=⟨hg.days,hg.rest,hg.run,hg.hours,by show s.week.duties.length≤13; omega,by simp [J8]; omega,fun d hd=>by
  rcases Zal.1 hd with hd | hd
  · exact hg.drv d hd
  · rw [Zaz.1 hd]; exact⟨a,b,rfl⟩⟩
 have hF:=Agz (n:=n) hw (by omega)
 unfold DS
 rw [show(B [100,114,105,118,101,114]).beq (B [100,114,105,118,101,114])=true by decide,Zab,AH (by simp; omega),Zaa,Zav,show A3 [a,b] 0=some a from rfl,Zaa,show A3 [a,b] 1=some b from rfl,Zaa,AH (by simp; omega),Zaa]
 change ((GR n (J8 s.week a b)).bind fun v4=>bif v4.fst != 0 then(some (s,(v4.fst,()))) else some (An.mk s.cards s.outs s.runs s.records (J8 s.week a b) s.roster,(0,())))=_
 rw [hF,Zaa]
 unfold AeD
 by_cases h0:Ba (J8 s.week a b)=0
 · rw [h0]; rfl
 · rw [show(Ba (J8 s.week a b) != 0)=true by simpa using h0,if_neg h0]; rfl
theorem AsX {n:Nat} {s:An} (hg:Gr s) {a b c d e:Int} (hn:100<n):DS n s (B [100,117,116,121]) [a,b,c,d,e]=some ((AeE s (AO.mk a b (Rg.mk c d) e)).1,((AeE s (AO.mk a b (Rg.mk c d) e)).2,())):=by
 have h6:=hg.drivers
 have h12:=hg.duties
 have hr:=hg.ros
 have hw:wkOk (KQ s.week (AO.mk a b (Rg.mk c d) e)):=⟨hg.days,hg.rest,hg.run,hg.hours,by simp [KQ]; omega,by show s.week.drivers.length≤7; omega,hg.drv⟩
 have hF:=Agz (n:=n) hw (by omega)
 unfold DS
 rw [show(B [100,117,116,121]).beq (B [100,114,105,118,101,114])=false by decide,Zad,show(B [100,117,116,121]).beq (B [100,117,116,121])=true by decide,Zab,AH (by simp; omega),Zaa,Zav,show A3 [a,b,c,d,e] 0=some a from rfl,Zaa,show A3 [a,b,c,d,e] 1=some b from rfl,Zaa,show A3 [a,b,c,d,e] 2=some c from rfl,Zaa,show A3 [a,b,c,d,e] 3=some d from rfl,Zaa,show A3 [a,b,c,d,e] 4=some e from rfl,Zaa,AH (by simp; omega),Zaa,AH (by simp; omega),Zaa,Zav,AH (by simp; omega),Zaa]
 change ((GR n (KQ s.week (AO.mk a b (Rg.mk c d) e))).bind fun v9=>bif v9.fst != 0 then(some (s,(v9.fst,()))) else some (An.mk s.cards s.outs s.runs s.records (KQ s.week (AO.mk a b (Rg.mk c d) e)) (s.roster++[-1]),(0,())))=_
 rw [hF,Zaa]
 unfold AeE
 by_cases h0:Ba (KQ s.week (AO.mk a b (Rg.mk c d) e))=0
 · rw [h0]; rfl
 · rw [show(Ba (KQ s.week (AO.mk a b (Rg.mk c d) e)) != 0)=true by simpa using h0,if_neg h0]; rfl
theorem AsY {n:Nat} {s:An} (hg:Gr s) (hl:Tc s) {a b:Int} (hn:300<n):DS n s (B [103,105,118,101]) [a,b]=some ((AeF s a b).1,((AeF s a b).2,())):=by
 have h6:=hg.drivers
 have h12:=hg.duties
 have hr:=hg.ros
 unfold DS
 rw [show(B [103,105,118,101]).beq (B [100,114,105,118,101,114])=false by decide,Zad,show(B [103,105,118,101]).beq (B [100,117,116,121])=false by decide,Zad,show A3 [a,b] 0=some a from rfl,show A3 [a,b] 1=some b from rfl]
 simp only [Zaa,AaA]
 rw [Bv (x:=(s.roster.length:Int)-1) (by omega) (by omega),Bv (x:=(s.week.drivers.length:Int)-1) (by omega) (by omega)]
 unfold AeF
 cases hb1:Cp a 0 ((s.roster.length:Int)-1) with
 | false=>rfl
 | true =>
  cases hb2:Cp b (-1) ((s.week.drivers.length:Int)-1) with
  | false=>rfl
  | true =>
   obtain⟨a1,a2⟩:=D8.1 hb1
   obtain⟨b1,b2⟩:=D8.1 hb2
   obtain⟨i,rfl⟩:∃ i:Nat,a=i:=⟨a.toNat,by omega⟩
   have hi:i<s.roster.length:=by omega
   unfold Wh
   simp only [ZaB,Za4,Zab,Zad,Zb0,if_true]
   rw [AH (by simp; omega),Zaa,Zav,BS hi,Zaa,show((i:Nat):Int).toNat=i from rfl,Aku hi,Zaa,Zaa]
   obtain⟨p1,p2,_⟩:=OX.1 hl
   have hro:E2 s.week (s.roster.set i b):=⟨by rw [List.length_set]; exact hr,fun x hx=>by
    rcases List.mem_or_eq_of_mem_set hx with hx | rfl
    · exact p2.2 x hx
    · exact⟨b1,by omega⟩⟩
   simp only
   rw [Ao4 hg.wkOk p1 hro (by omega),Zaa]
   have hp:KP s.week (s.roster.set i b)=decide (Gu s.week (s.roster.set i b)=[]):=by
    unfold KP
    rw [Zaf p1,AfU.2 hro]; rfl
   rw [hp]
   cases decide (Gu s.week (s.roster.set i b)=[]) <;> rfl
theorem Ari {s:An} {f:Int} {l:List Int} (h0:(BL s f l).2≠0):(BL s f l).1=s:=by
 have hcard:∀ c,(Ik s c).2≠0→(Ik s c).1=s:=fun c h=>by
  unfold Ik at h ⊢
  split
  · rfl
  · split
    · rename_i h1 h2; rw [if_neg h1,if_pos h2] at h; exact absurd rfl h
    · rfl
 have hrec:∀ c,(MC s c).2≠0→(MC s c).1=s:=fun c h=>by
  unfold MC at h ⊢
  split
  · rfl
  · split
    · rename_i h1 h2; rw [if_neg h1,if_pos h2] at h; exact absurd rfl h
    · rfl
 have hin:∀ a b c,(ApI s a b c).2≠0→(ApI s a b c).1=s:=fun a b c h=>by
  unfold ApI at h ⊢
  cases hgo:Vn s.outs a with
  | none=>rfl
  | some k =>
   rw [hgo] at h
   simp only at h ⊢
   cases ho:s.outs[k]? with
   | none=>rfl
   | some o =>
    rw [ho] at h
    simp only at h ⊢
    by_cases hc:(Cp b o.fr 1000000 && Cp c 0 1000)=true
    · rw [if_pos hc] at h; exact absurd rfl h
    · rw [if_neg hc]
 have hout:∀ a b,(Aa4 s a b).2≠0→(Aa4 s a b).1=s:=fun a b h=>by
  unfold Aa4 at h ⊢
  by_cases c1:(Cp a 0 99 && Cp b 0 1000000)=true
  · rw [if_pos c1] at h ⊢
    by_cases c2:Q7 s.outs a<0
    · rw [if_pos c2] at h ⊢
      by_cases c3:AdM s.runs a b=true
      · rw [if_pos c3] at h ⊢
        by_cases c4:(J7 s.cards a b).2=0
        · rw [if_pos c4] at h ⊢
          by_cases c5:(J7 s.cards a b).1=[]
          · rw [if_pos c5] at h; exact absurd rfl h
          · rw [if_neg c5]
        · rw [if_neg c4]
      · rw [if_neg c3]
    · rw [if_neg c2]
  · rw [if_neg c1]
 unfold BL at h0 ⊢
 split at h0
 · by_cases q0:f=189
   · rw [if_pos q0] at h0 ⊢; exact hcard _ h0
   rw [if_neg q0] at h0 ⊢
   by_cases q0:f=190
   · rw [if_pos q0] at h0 ⊢; exact hcard _ h0
   rw [if_neg q0] at h0 ⊢
   by_cases q0:f=191
   · rw [if_pos q0] at h0 ⊢; exact hcard _ h0
   rw [if_neg q0] at h0 ⊢
   by_cases q0:f=192
   · rw [if_pos q0] at h0 ⊢; exact hcard _ h0
   rw [if_neg q0] at h0 ⊢
   by_cases q0:f=193
   · rw [if_pos q0] at h0 ⊢; exact hout _ _ h0
   rw [if_neg q0] at h0 ⊢
   by_cases q0:f=194
   · rw [if_pos q0] at h0 ⊢; exact hin _ _ _ h0
   rw [if_neg q0] at h0 ⊢
   by_cases q0:f=195
   · rw [if_pos q0] at h0 ⊢; exact hrec _ h0
   rw [if_neg q0] at h0 ⊢
   by_cases q0:f=196
   · rw [if_pos q0] at h0 ⊢; exact hrec _ h0
   rw [if_neg q0] at h0 ⊢
   by_cases q0:f=197
   · rw [if_pos q0] at h0 ⊢; exact hrec _ h0
   rw [if_neg q0] at h0 ⊢
   by_cases q0:f=198
   · rw [if_pos q0] at h0 ⊢
     unfold AeD at h0 ⊢
     split
     · rename_i c; rw [if_pos c] at h0; exact absurd rfl h0
     · rfl
   rw [if_neg q0] at h0 ⊢
   by_cases q0:f=199
   · rw [if_pos q0] at h0 ⊢
     unfold AeE at h0 ⊢
     split
     · rename_i c; rw [if_pos c] at h0; exact absurd rfl h0
     · rfl
   rw [if_neg q0] at h0 ⊢
   unfold AeF at h0 ⊢
   split
   · rename_i c1
     rw [if_pos c1] at h0
     split
     · rename_i c2; rw [if_pos c2] at h0; exact absurd rfl h0
     · rfl
   · rfl
 · rfl
theorem Arj {s:An} {t:ByteArray} {f:Int} {l:List Int} (h:DB t=some (f,l)):BT s t=BL s f l:=by
 unfold BT
 rw [h]
 simp only
 by_cases h0:(BL s f l).2=0
 · rw [if_pos h0]
 · rw [if_neg h0]
   exact Prod.ext (Ari h0).symm rfl
theorem AsZ {t:ByteArray} {f:Int} {l:List Int} (h:DB t=some (f,l)):ApK t=decide (f≤192):=by unfold ApK; rw [h]
theorem Ata {t:ByteArray} {f:Int} {l:List Int} (h:DB t=some (f,l)) (hf:f≤192):Amh t=Uo f l:=by
 unfold Amh; rw [h]; simp only; rw [if_pos hf]
theorem Ava {t:ByteArray} {f:Int} {l:List Int} (h:DB t=some (f,l)):Aa9 t=(decide (195≤f) && decide (f≤197)):=by unfold Aa9; rw [h]
theorem Avb {t:ByteArray} {f:Int} {l:List Int} (h:DB t=some (f,l)) (hf:195≤f∧f≤197):Amo t=Acs f l:=by
 unfold Amo; rw [h]; simp only; rw [if_pos hf]
structure Axc (s:An):Prop where
 good:Gr s
 recs:Up s.records
 law:Tc s
theorem Axv {vs:List Int} {m:Int} (h:(vs.length:Int)=m) (hm:m=2):∃ a b,vs=[a,b]:=by
 rcases vs with _ | ⟨a,_ | ⟨b,_ | ⟨c,d⟩⟩⟩ <;> first | exact⟨_,_,rfl⟩ | (simp at h; omega)
theorem Ax9 {vs:List Int} {m:Int} (h:(vs.length:Int)=m) (hm:m=3):∃ a b c,vs=[a,b,c]:=by
 rcases vs with _ | ⟨a,_ | ⟨b,_ | ⟨c,_ | ⟨d,e⟩⟩⟩⟩ <;> first | exact⟨_,_,_,rfl⟩ | (simp at h; omega)
theorem Axt {vs:List Int} {m:Int} (h:(vs.length:Int)=m) (hm:m=4):∃ a b c d,vs=[a,b,c,d]:=by
 rcases vs with _ | ⟨a,_ | ⟨b,_ | ⟨c,_ | ⟨d,_ | ⟨e,f⟩⟩⟩⟩⟩ <;> first | exact⟨_,_,_,_,rfl⟩ | (simp at h; omega)
theorem Axw {vs:List Int} {m:Int} (h:(vs.length:Int)=m) (hm:m=5):∃ a b c d e,vs=[a,b,c,d,e]:=by
 rcases vs with _ | ⟨a,_ | ⟨b,_ | ⟨c,_ | ⟨d,_ | ⟨e,_ | ⟨f,g⟩⟩⟩⟩⟩⟩ <;> first | exact⟨_,_,_,_,_,rfl⟩ | (simp at h; omega)
theorem AvN {n:Nat} {s:An} (hf:Axc s) {t:ByteArray} (ht:t.size≤1000) (hn:1400<n):AbN n s t=some ((BT s t).1,((BT s t).2,())):=by
 have hg:=hf.good
 unfold AbN
 rw [Agg (by omega) (by omega),Zaa,AuN (by omega) (by omega),AqZ (by omega) (by omega)]
 simp only [Zaa]
 rcases AqQ t with⟨q1,q2⟩ | ⟨p,x,vs,q1,q2,q3,q4⟩
 · rw [q1]
   unfold BT
   rw [q2]; rfl
 · rw [q1,Arj q4,AsZ q4,Ava q4]
   simp only [Ak4,ZaB,Zad]
   have hcards:∀ {f:Int} {l:List Int},DB t=some (f,l)→f≤192→KM (Uo f l)→BL s f l=Ik s (Uo f l)→((SG n s (Amh t)).bind fun v2=>some (v2.fst,(v2.snd.fst,())))=some ((BL s f l).1,((BL s f l).2,())):=fun {f l} e hff hk hw=>by
    rw [Ata e hff,hw,AsQ hg hk (by omega)]; rfl
   have hrecs:∀ {f:Int} {l:List Int},DB t=some (f,l)→195≤f∧f≤197→Xu (Acs f l)→BL s f l=MC s (Acs f l)→((N6 n s (Amo t)).bind fun v2=>some (v2.fst,(v2.snd.fst,())))=some ((BL s f l).1,((BL s f l).2,())):=fun {f l} e hff hk hw=>by
    rw [Avb e hff,hw,Aoy hf.recs hg.rk hk (by omega)]; rfl
   have:=RP Fi (fun a b h=>(Vl a b).1 h) _ _ _ q2
   simp only [Em,Zak,Prod.mk.injEq,List.not_mem_nil,or_false] at this
   rcases this with⟨rfl,rfl⟩ | ⟨rfl,rfl⟩ | ⟨rfl,rfl⟩ | ⟨rfl,rfl⟩ | ⟨rfl,rfl⟩ | ⟨rfl,rfl⟩ | ⟨rfl,rfl⟩ | ⟨rfl,rfl⟩ | ⟨rfl,rfl⟩ | ⟨rfl,rfl⟩ | ⟨rfl,rfl⟩ | ⟨rfl,rfl⟩
   · obtain⟨a,b,c,d,rfl⟩:=Axt q3 rfl
     exact hcards q4 (by decide) ⟨by simp [Uo],by simp [Uo]⟩ rfl
   · obtain⟨a,b,c,d,rfl⟩:=Axt q3 rfl
     exact hcards q4 (by decide) ⟨by simp [Uo],by simp [Uo]⟩ rfl
   · obtain⟨a,b,c,d,rfl⟩:=Axt q3 rfl
     exact hcards q4 (by decide) ⟨by simp [Uo],by simp [Uo]⟩ rfl
   · obtain⟨a,b,c,rfl⟩:=Ax9 q3 rfl
     exact hcards q4 (by decide) ⟨by simp [Uo],by simp [Uo]⟩ rfl
   · obtain⟨a,b,rfl⟩:=Axv q3 rfl
     show((GS n s (B [111,117,116]) [a,b]).bind fun v3=>some (v3.fst,(v3.snd.fst,())))=_
     rw [AuT hg (by omega)]; rfl
   · obtain⟨a,b,c,rfl⟩:=Ax9 q3 rfl
     show((GS n s (B [105,110]) [a,b,c]).bind fun v3=>some (v3.fst,(v3.snd.fst,())))=_
     rw [Awp hg (by omega)]; rfl
   · obtain⟨a,b,c,d,e,rfl⟩:=Axw q3 rfl
     exact hrecs q4 (by decide) ⟨by simp [Acs],by simp [Acs]⟩ rfl
   · obtain⟨a,b,c,d,rfl⟩:=Axt q3 rfl
     exact hrecs q4 (by decide) ⟨by simp [Acs],by simp [Acs]⟩ rfl
   · obtain⟨a,b,c,d,e,rfl⟩:=Axw q3 rfl
     exact hrecs q4 (by decide) ⟨by simp [Acs],by simp [Acs]⟩ rfl
   · obtain⟨a,b,rfl⟩:=Axv q3 rfl
     show((DS n s (B [100,114,105,118,101,114]) [a,b]).bind fun v3=>some (v3.fst,(v3.snd.fst,())))=_
     rw [Ao5 hg (by omega)]; rfl
   · obtain⟨a,b,c,d,e,rfl⟩:=Axw q3 rfl
     show((DS n s (B [100,117,116,121]) [a,b,c,d,e]).bind fun v3=>some (v3.fst,(v3.snd.fst,())))=_
     rw [AsX hg (by omega)]; rfl
   · obtain⟨a,b,rfl⟩:=Axv q3 rfl
     show((DS n s (B [103,105,118,101]) [a,b]).bind fun v3=>some (v3.fst,(v3.snd.fst,())))=_
     rw [AsY hg hf.law (by omega)]; rfl
def KS (m:Nat) (s:An):Prop:=SZ m s∧Up s.records∧Tc s
theorem KS.fine {m:Nat} {s:An} (h:KS m s):Axc s:=⟨h.1.1,h.2.1,h.2.2⟩
theorem KS.step {m:Nat} {s:An} (h:KS (m+1) s) (t:ByteArray):KS m (BT s t).1:=⟨h.1.step t,Aot h.2.1 t,Aml h.1.1 h.2.2 t⟩
theorem KS.less {m k:Nat} {s:An} (h:KS m s) (hk:k≤m):KS k s:=⟨h.1.less hk,h.2⟩
theorem Ag1:KS 150 Bf:=⟨Ta,Amp,Ak7⟩
theorem AjB:∀ (l:List ByteArray)(m:Nat)(s:An),KS (m+l.length) s→KS m (Ek s l).1
 | [],_,_,h=>h
 | t::l,m,s,h=>by
  simp only [Ek]
  exact AjB l m _ (KS.step (by rw [show m+(t::l).length=m+l.length+1 by simp; omega] at h; exact h) t)
theorem AdR (full:List ByteArray) (hs:∀ t∈full,t.size≤1000) (hl:full.length≤150) (x2:An):∀ (n i:Nat)(s:An)(es:List Int),1500+(full.length-i)<n→i≤full.length→KS (full.length-i) s→es.length=i→Jd n full x2 s es (i:Int)=some (x2,((Ek s (full.drop i)).1,((),((),(es++(Ek s (full.drop i)).2,())))))
 | 0,_,_,_,h,_,_,_=>absurd h (Zam _)
 | n+1,i,s,es,h,hi,hL,he=>by
  rw [Jd]
  by_cases hx:i<full.length
  · have hd:full.drop i=full[i]::full.drop (i+1):=Zaj hx
    rw [show decide ((i:Int)<(full.length:Int))=true by simp; omega,Zab,BS hx,Zaa,AvN hL.fine (hs _ (Za1 hx)) (by omega),Zaa]
    simp only
    rw [AH (by simp; omega),Zaa,wN i (by omega)]
    have hL':KS (full.length-(i+1)) (BT s full[i]).1:=KS.step (by rw [show full.length-(i+1)+1=full.length-i by omega]; exact hL) _
    rw [AdR full hs hl x2 n (i+1) _ _ (by omega) (by omega) hL' (by simp [he]),hd]
    simp [Ek]
  · have hd:full.drop i=[]:=by simp; omega
    rw [show decide ((i:Int)<(full.length:Int))=false by simp; omega,hd]
    simp [Ek]
theorem Ao6 {n:Nat} {lines:List ByteArray} (hs:∀ t∈lines,t.size≤1000) (hl:lines.length≤150) (hn:1700≤n):Xq n lines=some ((Ek Bf lines).1,((Ek Bf lines).2,())):=by
 unfold Xq Zr
 have h:=AdR lines hs hl (An.mk [] [] [] [] (Ax.mk 0 [] [] 0 0 0) []) n 0 Bf [] (by omega) (by omega) (Ag1.less (by omega)) rfl
 rw [show((0:Nat):Int)=0 from rfl,Zar,Zav] at h
 show(Jd n lines (An.mk [] [] [] [] (Ax.mk 0 [] [] 0 0 0) []) Bf [] 0).bind _=_
 rw [h]; rfl
theorem Atb {n:Nat} {lines:List ByteArray} (hbig:lines.length≤4000000000000000000) (hn:lines.length<n):∃ b,P9 n lines=some (b,())∧(b=true→lines.length≤52):=by
 by_cases h52:lines.length≤52
 · obtain⟨b,hb⟩:=AsF hbig hn
   exact⟨b,hb,fun _=>h52⟩
 · have H:∀ (n i:Nat)(z:Int),lines.length-i<n→i≤lines.length→∃ z',I5 n lines z (i:Int)=some (lines,(z',())):=by
    intro n
    induction n with
    | zero=>intro i z h; exact absurd h (Zam _)
    | succ n ih =>
     intro i z h hi
     rw [I5]
     by_cases hx:i<lines.length
     · rw [show decide ((i:Int)<(lines.length:Int))=true by simp; omega,Zab,BS hx,Zaa,wN i (by omega)]
       exact ih (i+1) _ (by omega) (by omega)
     · rw [show decide ((i:Int)<(lines.length:Int))=false by simp; omega,Zad]
       exact⟨z,rfl⟩
   obtain⟨z,hz⟩:=H n 0 0 (by omega) (by omega)
   rw [show((0:Nat):Int)=0 from rfl] at hz
   refine⟨false,?_,fun h=>by cases h⟩
   unfold P9
   rw [hz]
   simp only [Zaa]
   rw [Zae (show ¬ (lines.length:Int)≤30 by omega),Zae (show ¬ (lines.length:Int)≤52 by omega),Zae (show ¬ (lines.length:Int)=1 by omega)]
   rfl
theorem Atc {b:List (IK .u8)} (hr:∀ x∈b,0≤x.n∧x.n≤255):∃ bl,b=bL bl:=⟨b.map fun x=>UInt8.ofNat x.n.toNat,by
 unfold bL
 rw [List.map_map]
 conv=>lhs; rw [← List.map_id b]
 apply List.map_congr_left
 intro x hx
 obtain⟨h0,h1⟩:=hr x hx
 show x=⟨((UInt8.ofNat x.n.toNat).toNat:Int)⟩
 obtain⟨v⟩:=x
 simp only at h0 h1 ⊢
 rw [AwP (by omega),Int.toNat_of_nonneg h0]⟩
theorem Ao7 {n:Nat} {b:List UInt8} {r:List (List UInt8)} {more:List ByteArray} (hb:b.length≤1000000) (hR:Rd 50 0 b r) (hm:SS more=true) (hn:1700≤n) (h50 : ¬ (r.map B7++Tb (Ek Bf (r.map B7)).1 more).length≤50) :
  CG n (bL b) more=some ([],(3,())):=by
 obtain⟨m1,m2⟩:=Y7.1 hm
 have hsz:∀ t∈r.map B7,t.size≤200:=fun t ht=>by
  obtain⟨l,hl,rfl⟩:=ZaR.1 ht
  rw [BN]; exact hR.sizes l hl
 have hle:=hR.le'
 unfold CG
 rw [AfL (by omega) (by omega),hm,Zaa]
 simp only [Zab]
 rw [show((0:Int) != 0)=false from rfl,Zad,AfO hb (by omega) hR,Zaa]
 simp only
 rw [ApJ (fun t ht=>ZaO (hsz t ht) (by decide)) (by rw [ZaH]; omega) (by omega),Zaa]
 simp only
 have hL:SZ (more.length-0) (Ek Bf (r.map B7)).1:=YC _ _ _ (Ta.less (by rw [ZaH]; omega))
 obtain⟨s',e⟩:=On more (fun t ht=>ZaO (m2 t ht) (by decide)) (by omega) n 0 _ (r.map B7) (by omega) (by omega) hL (by rw [ZaH]; omega)
 rw [show((0:Nat):Int)=0 from rfl,Zar] at e
 rw [e,Zaa]
 simp only
 rw [show decide ((((r.map B7++Tb (Ek Bf (r.map B7)).1 more).length:Nat):Int)>50)=true from Zaf (by omega),Zab]
theorem Tf (full:List ByteArray) (hs:∀ t∈full,t.size≤1000) (hl:full.length≤100) (x:List (IK .u8)) (e:Int):∀ (n i:Nat)(s:An)(out:List ByteArray),1500+(full.length-i)<n→i≤full.length→KS (full.length-i) s→out.length≤1000+i→∃ s',BA n full out x e s (i:Int)=some (s',(out++Tb s (full.drop i),(x,(e,()))))
 | 0,_,_,_,h,_,_,_=>absurd h (Zam _)
 | n+1,i,s,out,h,hi,hL,ho=>by
  rw [BA]
  by_cases hx:i<full.length
  · have hd:full.drop i=full[i]::full.drop (i+1):=Zaj hx
    rw [show decide ((i:Int)<(full.length:Int))=true by simp; omega,Zab,BS hx,Zaa,AvN hL.fine (hs _ (Za1 hx)) (by omega),Zaa,Zaa]
    simp only
    rw [wN i (by omega),hd]
    have hL':KS (full.length-(i+1)) (BT s full[i]).1:=KS.step (by rw [show full.length-(i+1)+1=full.length-i by omega]; exact hL) _
    simp only [Tb]
    by_cases h0:(BT s full[i]).2=0
    · rw [Zaf h0,Zab,if_pos h0,AH (by simp; omega),Zaa]
      obtain⟨s',e2⟩:=Tf full hs hl x e n (i+1) _ (out++[full[i]]) (by omega) (by omega) hL' (by simp; omega)
      exact⟨s',by rw [e2]; simp⟩
    · rw [Zae h0,Zad,if_neg h0]
      exact Tf full hs hl x e n (i+1) _ out (by omega) (by omega) hL' (by omega)
  · have hd:full.drop i=[]:=by simp; omega
    rw [show decide ((i:Int)<(full.length:Int))=false by simp; omega,hd]
    exact⟨_,by simp [Tb]; rfl⟩
theorem Am1 {n:Nat} {b:List (IK .u8)} {more:List ByteArray} (hn:more.length+2000≤n) (hbig:more.length≤4000000000000000000) (hr:∀ x∈b,0≤x.n∧x.n≤255):GU n b more=some (true,()):=by
 unfold GU
 obtain⟨c,hc,h52⟩:=Atb (n:=n) hbig (by omega)
 have hw:=Au7 (show 60≤n by omega)
 rw [hc,Zaa]
 cases c with
 | false=>simp only [Za4,ZaB,Zad]; rw [hw]; rfl
 | true =>
  have hl:=h52 rfl
  simp only [ZaB,Za4,Zab]
  by_cases h3:b.length≤3000
  · rw [show decide ((b.length:Int)>3000)=false by simp; omega,Zad]
    obtain⟨bl,rfl⟩:=Atc hr
    rw [KI] at h3
    obtain⟨r,hR,_⟩:=AfN (n:=n) (b:=bl) (by omega) (by omega)
    have hle:=hR.le'
    have hsz:∀ t∈r.map B7,t.size≤200:=fun t ht=>by
     obtain⟨l,hl,rfl⟩:=ZaR.1 ht
     rw [BN]; exact hR.sizes l hl
    have hlen:(r.map B7).length≤50:=by rw [ZaH]; exact hle
    rw [Af8,Ai2 (by omega) (by omega) hR,Zaa]
    simp only
    rw [AH (by simp; omega),Zaa,Zav,AH (by omega),Zaa]
    obtain⟨c2,hc2,_⟩:=Atb (n:=n) (lines:=r.map B7++more) (by rw [Zat]; omega) (by rw [Zat]; omega)
    rw [hc2,Zaa]
    cases c2 with
    | false=>simp only [Za4,Zab]; rw [hw]; rfl
    | true =>
     simp only [ZaB,Zad]
     rw [AH (a:=[]) (by simp [KI]; omega),Zaa,Zav,AH (a:=[]) (by simp; omega),Zaa,Zav,Ass hbig (by omega)]
     cases hm:SS more with
     | false =>
      have hbad:CG n (bL bl) more=some ([],(3,())):=by
       unfold CG
       rw [AfL (by omega) hbig,hm]; rfl
      rw [hbad,Zaa,Zaa]
      simp only [Za4,Zab,decide_true,hw,Zaa,Zbp]
      rfl
     | true =>
      obtain⟨m1,m2⟩:=Y7.1 hm
      have hRP:=Ao6 (n:=n) (lines:=r.map B7) (fun t ht=>ZaO (hsz t ht) (by decide)) (by omega) (by omega)
      have hF:KS (more.length-0) (Ek Bf (r.map B7)).1:=AjB _ _ _ (Ag1.less (by omega))
      by_cases h50:(r.map B7++Tb (Ek Bf (r.map B7)).1 more).length≤50
      · obtain⟨s',e⟩:=Tf more (fun t ht=>ZaO (m2 t ht) (by decide)) (by omega) (bL (Ei 0 (Aiw (r.map B7++Tb (Ek Bf (r.map B7)).1 more)))) 0 n 0 _ (r.map B7) (by omega) (by omega) hF (by omega)
        rw [show((0:Nat):Int)=0 from rfl,Zar] at e
        rw [AqO (by omega) hR hm (by omega) h50,Zaa,Zaa]
        simp only [ZaB,Zad,hRP,Zaa,e]
        rw [Zae (show ¬ (((r.map B7++Tb (Ek Bf (r.map B7)).1 more).length:Nat):Int)>50 by omega),Zad,AnT (fun t ht=>by
         rcases Zal.1 ht with ht | ht
         · exact hsz t ht
         · exact m2 t (Aa5 _ _ t ht)) (by omega) (by omega),Zaa,Af8,AnQ]
        simp only [decide_true,Zab,hw,Zaa]
      · obtain⟨s',e⟩:=Tf more (fun t ht=>ZaO (m2 t ht) (by decide)) (by omega) [] 3 n 0 _ (r.map B7) (by omega) (by omega) hF (by omega)
        rw [show((0:Nat):Int)=0 from rfl,Zar] at e
        rw [Ao7 (by omega) hR hm (by omega) h50,Zaa,Zaa]
        simp only [ZaB,Zad,hRP,Zaa,e]
        rw [Zaf (show(((r.map B7++Tb (Ek Bf (r.map B7)).1 more).length:Nat):Int)>50 by omega)]
        simp only [decide_true,Zab,hw,Zaa,Zbp]
        rfl
  · rw [show decide ((b.length:Int)>3000)=true by simp; omega,Zab,hw]; rfl
end Go.Proofs.YtkpgggfibljflaaGreatDoor
