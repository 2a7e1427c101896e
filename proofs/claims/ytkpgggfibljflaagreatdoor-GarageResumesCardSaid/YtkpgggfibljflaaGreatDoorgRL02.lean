/- The plain law. -/
import Derived.Test.YtkpgggfibljflaaGreatDoorgRL01
set_option linter.all false
set_option maxRecDepth 100000
namespace Go.Proofs.YtkpgggfibljflaaGreatDoor
open Go Go.RowKit Go.Proofs
def bL (l:List UInt8):List (IK .u8):=l.map fun b=>⟨(b.toNat:Int)⟩
theorem KI (l:List UInt8):(bL l).length=l.length:=by simp [bL]
theorem Awg (a b:List UInt8):bL (a++b)=bL a++bL b:=by simp [bL]
theorem Au3 (l:List UInt8) (k:Nat):(bL l).take k=bL (l.take k):=by simp [bL,List.map_take]
theorem Au4 (l:List UInt8) (k:Nat):(bL l).drop k=bL (l.drop k):=by simp [bL,List.map_drop]
theorem Au5 (s:ByteArray):Apa s=bL s.data.toList:=by
 unfold Apa AeH bL
 rw [List.map_map]; rfl
theorem Ap3 (l:List UInt8):Apa (B7 l)=bL l:=by
 rw [Au5]; rfl
theorem Af8 (l:List UInt8):AcT (bL l)=B7 l:=by
 unfold AcT bL B7
 rw [List.map_map]
 congr 2
 conv=>rhs; rw [← List.map_id l]
 apply List.map_congr_left
 intro b _
 show UInt8.ofNat ((b.toNat:Int).toNat)=b
 simp
theorem Au6 (a b:List UInt8):B7 a++B7 b=B7 (a++b):=by
 have h:∀ s t:ByteArray,s.data.toList=t.data.toList→s=t:=fun s t h=>by
  rw [← Nx s,← Nx t,h]
 apply h
 simp [B7]
theorem BN (l:List UInt8):(B7 l).size=l.length:=by simp [B7,ByteArray.size]
theorem Ih (s:ByteArray):s.size=s.data.toList.length:=by rw [ZaN]; rfl
theorem Bw {a b:List UInt8} (h:a.length+b.length≤1000000000):DC (B7 a) (B7 b)=some (B7 (a++b)):=by
 unfold DC
 rw [BN,BN,if_pos h,Au6]
theorem AnQ (a b:List UInt8):(B7 a).beq (B7 b)=decide (a=b):=by
 show(a.toArray == b.toArray)=_
 by_cases h:a=b <;> simp [h]
theorem AvH:∀ k,Lib.repeatL [48] k=List.replicate k 48
 | 0=>rfl
 | k+1=>by rw [Lib.repeatL,AvH k,List.replicate_succ]; rfl
theorem Ap4:∀ k,dg k 0=List.replicate k 48
 | 0=>rfl
 | k+1=>by rw [dg,show 0 / 10=0 from rfl,Ap4 k,List.replicate_succ']; rfl
theorem Asl:∀ (k u:Nat),u<10 ^ k→0<k→(Lib.decDigits u).length≤k∧List.replicate (k-(Lib.decDigits u).length) 48++Lib.decDigits u=dg k u
 | 0,_,_,h=>absurd h (Nat.lt_irrefl 0)
 | k+1,u,h,_=>by
  rw [dg]
  by_cases hu:u<10
  · rw [Lib.decDigits,dif_pos hu,Nat.div_eq_of_lt hu,Nat.mod_eq_of_lt hu,Ap4]
    simp
  · rw [Lib.decDigits,dif_neg hu]
    have hk:0<k:=by
     rcases Zbj k with rfl | hk
     · simp at h; omega
     · exact hk
    obtain⟨h1,h2⟩:=Asl k (u / 10) (by rw [Zbq] at h; omega) hk
    rw [Zat,← h2]
    simp only [List.length_singleton]
    refine⟨by omega,?_⟩
    rw [show k+1-((Lib.decDigits (u / 10)).length+1)=k-(Lib.decDigits (u / 10)).length by omega,Za8]
theorem Acm (n k u:Nat) (hk:0<k) (hk2:k≤5) (hu:u<10 ^ k):Gp n (u:Int) (k:Int)=some (B7 (dg k u),()):=by
 have h5:10 ^ k≤10 ^ 5:=Zbk (by decide) hk2
 obtain⟨h1,h2⟩:=Asl k u hu hk
 have hi:Uu (u:Int)=B7 (Lib.decDigits u):=by
  unfold Uu
  show B7 (Apd 20 u)=_
  rw [AfG 20 u (by omega) (by decide)]
 unfold Gp Abl
 rw [show(decide (-9223372036854775808≤(u:Int)) && decide ((u:Int)≤9223372036854775807))=true by simp; omega,Zab,Zaa]
 simp only [hi,BN]
 generalize hL:(Lib.decDigits u).length=L at *
 have hw:IntKind.i64.wrap ((k:Int)-(L:Int))=((k-L:Nat):Int):=by rw [Bv (by omega) (by omega)]; omega
 have hc:(if IntKind.i64.wrap ((k:Int)-(L:Int))>0 then IntKind.i64.wrap ((k:Int)-(L:Int)) else 0)=((k-L:Nat):Int):=by
  rw [hw]; split <;> omega
 rw [hc]
 have hr:Aly n (B [48]) ((k-L:Nat):Int)=some (B7 (List.replicate (k-L) 48),()):=by
  show(bif Nat.ble (k-L) 1000 && Nat.ble (ByteArray.size (B [48])) 1000 then some (B7 (Lib.repeatL (B [48]).data.toList (k-L)),()) else none)=_
  rw [show Nat.ble (k-L) 1000=true from Za7 (by omega)]
  show some (B7 (Lib.repeatL [48] (k-L)),())=_
  rw [AvH]
 rw [hr]
 simp only [Zaa]
 rw [Bw (by simp; omega),Zaa,h2]
theorem Asm (n:Nat) (s:ByteArray):∀ (l:List UInt8)(i c:Nat)(full:List UInt8),full.length≤1000→full.drop i=l→i≤full.length→c≤1000000000+i*256000→l.length<n→EZ n s (c:Int) (bL full) ((bL full).length:Int) (i:Int)=some (s,(((c+Ack i l:Nat):Int),())):=by
 induction n with
 | zero=>intro l i c full _ _ _ _ h; exact absurd h (Zam _)
 | succ n ih =>
  intro l i c full hf hd hi hc hn
  rw [EZ]
  by_cases hx:i<full.length
  · have hd2:full.drop i=full[i]::full.drop (i+1):=Zaj hx
    rw [hd] at hd2
    subst hd2
    have hb:(bL full)[i]'(by rw [KI]; exact hx)=⟨(full[i].toNat:Int)⟩:=by simp [bL]
    rw [show decide ((i:Int)<((bL full).length:Int))=true by rw [KI]; simp; omega,Zab,BS (by rw [KI]; exact hx),Zaa,hb]
    have h8:=full[i].toNat_lt
    have hle:(i+1)*(full[i].toNat+1)≤1000*256:=Nat.mul_le_mul (by omega) (by omega)
    have hw:IntKind.i64.wrap ((c:Int)+IntKind.i64.wrap (IntKind.i64.wrap ((i:Int)+1)*IntKind.i64.wrap (IntKind.i64.wrap ((full[i].toNat:Nat):Int)+1)))=((c+(i+1)*(full[i].toNat+1):Nat):Int):=by
     rw [wN i (by omega),Bv (x:=((full[i].toNat:Nat):Int)) (by omega) (by omega),wN (full[i].toNat) (by omega)]
     rw [show((i+1:Nat):Int)*((full[i].toNat+1:Nat):Int)=(((i+1)*(full[i].toNat+1):Nat):Int) by push_cast; rfl]
     generalize (i+1)*(full[i].toNat+1)=q at *
     rw [Bv (x:=((q:Nat):Int)) (by omega) (by omega),Bv (by omega) (by omega)]
     omega
    rw [hw,wN i (by omega),ih (full.drop (i+1)) (i+1) _ full hf rfl (by omega) (by omega) (by simp at hn ⊢; omega)]
    simp only [Ack]
    rw [Zbf]
  · have:l=[]:=by rw [← hd]; simp; omega
    subst this
    rw [show decide ((i:Int)<((bL full).length:Int))=false by rw [KI]; simp; omega]
    simp [Ack]
theorem Ap5:∀ (l:List UInt8)(i:Nat),Ack i l≤l.length*((i+l.length)*256)
 | [],_=>by simp [Ack]
 | c::l,i=>by
  have h:=Ap5 l (i+1)
  have h8:=c.toNat_lt
  simp only [Ack,Za6]
  have h1:(i+1)*(c.toNat+1)≤(i+(l.length+1))*256:=Nat.mul_le_mul (by omega) (by omega)
  rw [show i+1+l.length=i+(l.length+1) by omega] at h
  have h2:=Nat.succ_mul l.length ((i+(l.length+1))*256)
  generalize (i+1)*(c.toNat+1)=q1 at *
  generalize (i+(l.length+1))*256=q2 at *
  rw [Nat.succ_eq_add_one] at h2
  omega
theorem Asn (a b:Nat):(a:Int).tmod (b:Int)=((a % b:Nat):Int):=rfl
theorem Ajn {n i:Nat} {l:List UInt8} (hl:l.length≤900) (hi:i≤1000) (hn:l.length<n):IB n (B7 l) (i:Int)=some (B7 (AdG l i),()):=by
 unfold IB
 have hs:=Ap5 l 0
 have hs2:l.length*((0+l.length)*256)≤900*(900*256):=Nat.mul_le_mul hl (Nat.mul_le_mul (by omega) (Zap _))
 have h7:IntKind.i64.wrap (7*IntKind.i64.wrap ((i:Int)+1))=((7*(i+1):Nat):Int):=by
  rw [wN i (by omega),Bv (by omega) (by omega)]; push_cast; rfl
 rw [h7,Ap3]
 have hr:=Asm n (B7 l) l 0 (7*(i+1)) l (by omega) rfl (by omega) (by omega) hn
 rw [show((0:Nat):Int)=0 from rfl] at hr
 rw [hr]
 simp only [Zaa,BN]
 have d1:=Acm n 3 l.length (by decide) (by decide) (by omega)
 have d2:=Acm n 3 (999-l.length) (by decide) (by decide) (by omega)
 have d3:=Acm n 5 (chk l i) (by decide) (by decide) (Asf l i)
 rw [show((3:Nat):Int)=3 from rfl] at d1 d2
 rw [show((5:Nat):Int)=5 from rfl] at d3
 have w2:IntKind.i64.wrap (999-(l.length:Int))=((999-l.length:Nat):Int):=by rw [Bv (by omega) (by omega)]; omega
 have w3:((7*(i+1)+Ack 0 l:Nat):Int).tmod 99991=((chk l i:Nat):Int):=Asn _ 99991
 rw [w2,w3,d1]
 simp only [Zaa]
 rw [show B [91]=B7 [91] from rfl,show B [47]=B7 [47] from rfl,show B [93]=B7 [93] from rfl,show B [10]=B7 [10] from rfl]
 rw [Bw (by simp [Di])]
 simp only [Zaa]
 rw [Bw (by simp [Di])]
 simp only [Zaa]
 rw [d2]
 simp only [Zaa]
 rw [Bw (by simp [Di])]
 simp only [Zaa]
 rw [Bw (by simp [Di])]
 simp only [Zaa]
 rw [d3]
 simp only [Zaa]
 rw [Bw (by simp [Di])]
 simp only [Zaa]
 rw [Bw (by simp [Di])]
 simp only [Zaa]
 rw [Bw (by simp [Di]; omega)]
 simp only [Zaa]
 rw [Bw (by simp [Di]; omega)]
 simp only [Zaa]
 unfold AdG
 simp
theorem Aso (s:ByteArray):B7 s.data.toList=s:=Nx s
def Aiw (lines:List ByteArray):List (List UInt8):=lines.map fun s=>s.data.toList
theorem WW (a:List ByteArray):(Aiw a).length=a.length:=by simp [Aiw]
theorem Awh (l:List UInt8) (i:Nat) (h:l.length≤200):(AdG l i).length≤216:=by rw [Ci]; omega
theorem AfK:∀ (ls:List (List UInt8))(i:Nat),(∀ l∈ls,l.length≤200)→(Ei i ls).length≤216*ls.length
 | [],_,_=>by simp [Ei]
 | l::ls,i,h=>by
  have h1:=AfK ls (i+1) fun x hx=>h x (by simp [hx])
  have h2:=Awh l i (h l (by simp))
  simp only [Ei,Zat,Za6]
  omega
theorem Aav (lines:List ByteArray) (hs:∀ s∈lines,s.size≤200) (hl:lines.length≤1000):∀ (n i:Nat),200+(lines.length-i)<n→i≤lines.length→DT n (bL (Ei 0 ((Aiw lines).take i))) lines (lines.length:Int) (i:Int)=some (bL (Ei 0 (Aiw lines)),())
 | 0,_,h,_=>absurd h (Zam _)
 | n+1,i,h,hi=>by
  rw [DT]
  by_cases hx:i<lines.length
  · rw [show decide ((i:Int)<(lines.length:Int))=true by simp; omega,Zab,BS hx,Zaa]
    have hsz:lines[i].data.toList.length≤200:=by rw [← Ih]; exact hs _ (Za1 hx)
    have hr:=Ajn (n:=n) (i:=i) (l:=lines[i].data.toList) (by omega) (by omega) (by omega)
    rw [Aso] at hr
    rw [hr]
    simp only [Zaa]
    rw [Ap3]
    have hls:∀ l∈Aiw lines,l.length≤200:=fun l hl=>by
     obtain⟨s,hs1,rfl⟩:=ZaR.1 hl
     rw [← Ih]; exact hs s hs1
    have hb:=AfK ((Aiw lines).take i) 0 fun l hl=>hls l (List.mem_of_mem_take hl)
    have hti:((Aiw lines).take i).length=i:=by rw [ZaE,WW]; omega
    rw [AH (by rw [KI,KI,Ci]; rw [hti] at hb; omega),Zaa,wN i (by omega)]
    have hst:bL (Ei 0 ((Aiw lines).take i))++bL (AdG lines[i].data.toList i)=bL (Ei 0 ((Aiw lines).take (i+1))):=by
     rw [← Awg]
     congr 1
     rw [ZaK (by rw [WW]; exact hx),Acl,hti]
     simp [Ei,Aiw]
    rw [hst]
    exact Aav lines hs hl n (i+1) (by omega) (by omega)
  · have:i=lines.length:=by omega
    subst this
    rw [show decide ((lines.length:Int)<(lines.length:Int))=false by simp,Zad,ZaL (by rw [WW]; omega)]
theorem AnR {n:Nat} {lines:List ByteArray} (hs:∀ s∈lines,s.size≤200) (hl:lines.length≤1000) (hn:200+lines.length<n):Ho n lines=some (bL (Ei 0 (Aiw lines)),()):=by
 unfold Ho
 have h:=Aav lines hs hl n 0 (by omega) (by omega)
 rw [show((0:Nat):Int)=0 from rfl] at h
 simp only [List.take_zero,Ei] at h
 rw [show([]:List (IK .u8))=bL [] from rfl,h]
 rfl
def SS (lines:List ByteArray):Bool:=decide (lines.length≤50) && lines.all fun s=>decide (s.size≤200)
theorem Y7 {lines:List ByteArray}:SS lines=true↔lines.length≤50∧∀ s∈lines,s.size≤200:=by simp [SS]
theorem AfL {n:Nat} {lines:List ByteArray} (hn:lines.length<n) (hbig:lines.length≤4000000000000000000):Fx n lines=some (bif SS lines then 0 else 3,()):=by
 unfold Fx SS
 by_cases h50:lines.length≤50
 · rw [show decide ((lines.length:Int)>50)=false by simp; omega,Zad,Zaf h50,ZaJ]
   have key:=Ajm (F:=fun n (_:Unit) i=>Ge n lines (lines.length:Int) i) (l:=lines) (N:=0) (T:=fun s i a=>bif decide ((a.size:Int)>200) then .inr (.inr (3,())) else .inl s) (E:=fun _=>.inl ())
    (B:=fun n _ i v0=>bif decide ((↑v0.size:Int)>200) then(some (.inr (3,()))) else Ge n lines (lines.length:Int) (IntKind.i64.wrap (i+1))) (fun _ _=>True)
    (fun _ _ _=>rfl) (fun n s i hi _ _=>by
     cases decide ((lines[i].size:Int)>200)
     · exact⟨rfl,trivial⟩
     · rfl) hbig lines.length () 0 n (by simp) (by omega) trivial
   rw [show((0:Nat):Int)=0 from rfl,Zar] at key
   rw [key,Zaa]
   have H:∀ (l:List ByteArray)(i:Nat),ArS (fun(s:Unit)(i:Nat)(a:ByteArray)=>bif decide ((a.size:Int)>200) then .inr (.inr (3,())) else .inl s) (fun _=>(.inl ():Unit ⊕ (Int×Unit))) i () l=bif l.all (fun s=>decide (s.size≤200)) then .inl () else .inr (3,()):=by
    intro l
    induction l with
    | nil=>intro i; rfl
    | cons a l ih =>
     intro i
     unfold ArS
     by_cases ha:a.size≤200
     · rw [show decide ((a.size:Int)>200)=false by simp; omega,ZaU,Zaf ha]
       exact ih (i+1)
     · rw [show decide ((a.size:Int)>200)=true by simp; omega,ZaU,Zae ha]
       rfl
   rw [H]
   cases lines.all (fun s=>decide (s.size≤200)) <;> rfl
 · rw [show decide ((lines.length:Int)>50)=true by simp; omega,Zae h50]
   rfl
def Auw (c:UInt8):Bool:=decide (48≤c.toNat) && decide (c.toNat≤57)
def Aaw:Nat→List UInt8→Option Nat
 | a,[]=>some a
 | a,c::l=>bif Auw c then Aaw (10*a+(c.toNat-48)) l else none
theorem Ap6 {x:Int} (h0:0≤x) (h1:x≤255):IntKind.u8.wrap x=x:=by
 simp [IntKind.wrap,IntKind.bits,IntKind.signed]; omega
theorem AlK (full:List UInt8) (hf:full.length≤3):∀ (n i a:Nat),full.length-i<n→i≤full.length→a<10 ^ i→Fb n (a:Int) (bL full) ((bL full).length:Int) (i:Int)=some (match Aaw a (full.drop i) with | some v=>.inl ((v:Int),()) | none=>.inr (-1,()))
 | 0,_,_,h,_,_=>absurd h (Zam _)
 | n+1,i,a,h,hi,ha=>by
  rw [Fb]
  by_cases hx:i<full.length
  · have hd:full.drop i=full[i]::full.drop (i+1):=Zaj hx
    have hb:(bL full)[i]'(by rw [KI]; exact hx)=⟨(full[i].toNat:Int)⟩:=by simp [bL]
    rw [show decide ((i:Int)<((bL full).length:Int))=true by rw [KI]; simp; omega,Zab,BS (by rw [KI]; exact hx),Zaa,hb,hd]
    simp only [Aaw,Auw]
    have h3:10 ^ i≤10 ^ 3:=Zbk (by decide) (by omega)
    by_cases h48:full[i].toNat<48
    · rw [show decide (((full[i].toNat:Nat):Int)<48)=true by simp; omega,show decide (48≤full[i].toNat)=false by simp; omega]
      rfl
    · rw [show decide (((full[i].toNat:Nat):Int)<48)=false by simp; omega,show decide (48≤full[i].toNat)=true by simp; omega]
      by_cases h57:full[i].toNat≤57
      · rw [show decide (((full[i].toNat:Nat):Int)>57)=false by simp; omega,Zaf h57]
        simp only [Za4,Zab,Zad,Zb0]
        have e1:IntKind.i64.wrap (IntKind.i64.wrap (10*(a:Int))+IntKind.i64.wrap (IntKind.u8.wrap (((full[i].toNat:Nat):Int)-48)))=((10*a+(full[i].toNat-48):Nat):Int):=by
         rw [Ap6 (by omega) (by omega),Bv (x:=10*(a:Int)) (by omega) (by omega),Bv (x:=((full[i].toNat:Nat):Int)-48) (by omega) (by omega),Bv (by omega) (by omega)]
         omega
        rw [e1,wN i (by omega)]
        exact AlK full hf n (i+1) _ (by omega) (by omega) (by rw [Zbq]; omega)
      · rw [show decide (((full[i].toNat:Nat):Int)>57)=true by simp; omega,Zae h57]
        rfl
  · have hd:full.drop i=[]:=by simp; omega
    rw [show decide ((i:Int)<((bL full).length:Int))=false by rw [KI]; simp; omega,hd]
    rfl
theorem length_eq {n:Nat} {t:List UInt8} (ht:t.length=3) (hn:3<n):Me n (bL t)=some (match Aaw 0 t with | some v=>((v:Int),()) | none=>(-1,())):=by
 unfold Me
 have h:=AlK t (by omega) n 0 0 (by omega) (by omega) (by decide)
 rw [show((0:Nat):Int)=0 from rfl,Zar] at h
 rw [h,Zaa]
 cases Aaw 0 t <;> rfl
theorem AwP {x:Nat} (h:x<256):(UInt8.ofNat x).toNat=x:=by simp [UInt8.toNat_ofNat',Nat.mod_eq_of_lt h]
theorem Ax6 (m:Nat):dg 3 m=[UInt8.ofNat (48+m / 10 / 10 % 10),UInt8.ofNat (48+m / 10 % 10),UInt8.ofNat (48+m % 10)]:=rfl
theorem AnS {x:Nat} (h:x<10):Auw (UInt8.ofNat (48+x))=true:=by
 unfold Auw
 rw [AwP (by omega)]
 simp; omega
theorem Ap7 {m:Nat} (h:m<1000):Aaw 0 (dg 3 m)=some m:=by
 rw [Ax6]
 simp only [Aaw,AnS (show m / 10 / 10 % 10<10 by omega),AnS (show m / 10 % 10<10 by omega),AnS (show m % 10<10 by omega),Zab]
 rw [AwP (by omega),AwP (by omega),AwP (by omega)]
 congr 1
 omega
theorem Akw {c:UInt8}:Auw c=true↔48≤c.toNat∧c.toNat≤57:=by simp [Auw]
theorem Ap8 {t:List UInt8} {v:Nat} (ht:t.length=3) (h:Aaw 0 t=some v):v<1000∧t=dg 3 v:=by
 match t,ht with
 | [a,b,c],_ =>
  simp only [Aaw] at h
  cases ha:Auw a with
  | false=>rw [ha] at h; cases h
  | true =>
  cases hb:Auw b with
  | false=>rw [ha,hb] at h; cases h
  | true =>
  cases hc:Auw c with
  | false=>rw [ha,hb,hc] at h; cases h
  | true =>
  rw [ha,hb,hc] at h
  simp only [Zab,Option.some.injEq] at h
  obtain⟨a1,a2⟩:=Akw.1 ha
  obtain⟨b1,b2⟩:=Akw.1 hb
  obtain⟨c1,c2⟩:=Akw.1 hc
  subst h
  refine⟨by omega,?_⟩
  rw [Ax6]
  have e:∀ (x:UInt8)(y:Nat),x.toNat=y→x=UInt8.ofNat y:=fun x y h=>by subst h; simp
  rw [← e a _ (by omega),← e b _ (by omega),← e c _ (by omega)]
def AdH:List (List UInt8)→Nat
 | []=>0
 | l::r=>16+l.length+AdH r
theorem Ajo {α:Type} {l:List α} {a b:Nat} (h:a≤b) (h2:b≤l.length):Gx l (a:Int) (b:Int)=some ((l.drop a).take (b-a)):=by
 unfold Gx
 rw [if_pos ⟨by omega,by omega,by omega⟩]
 simp
def Ai0 {A B C:Type}:((((List ByteArray×Unit)×((Int×Unit)×Unit))×A) ⊕ ((((List ByteArray×Unit)×((Int×Unit)×Unit))×B) ⊕ (((List ByteArray×Unit)×((Int×Unit)×Unit))×C)))→Option (List ByteArray×Int×Unit)
 | .inl v1=>some (v1.fst.fst.fst,(v1.fst.snd.fst.fst,()))
 | .inr (.inl v2)=>some (v2.fst.fst.fst,(v2.fst.snd.fst.fst,()))
 | .inr (.inr v2)=>some (v2.fst.fst.fst,(v2.fst.snd.fst.fst,()))
theorem Asp {k i:Nat} {b:List UInt8} (h:∀ l,¬ Xt i b l):Rd k i b []:=by
 cases k with
 | zero=>exact .full _ _
 | succ k=>exact .stop h
theorem AfM (n:Nat) (x lo hi:Int):AZ n x lo hi=some (Cp x lo hi,()):=by
 unfold AZ Cp
 cases decide (lo≤x) <;> rfl
theorem Akx {i:Nat} {c l:List UInt8} (h:Xt i c l):(c.drop 1).take 3=dg 3 l.length:=by
 have:=(Asi h.2 (by rw [Ci]; omega)).1
 rw [this,Asg]
theorem Asq {i:Nat} {c l:List UInt8} (h:Xt i c l):(c.drop 15).take l.length=l:=by
 obtain⟨h1,t,ht⟩:=h
 rw [← ht,ZaW (by rw [Ci]; omega),Ash,Za8,ZaP (Zap _),List.take_length]
theorem Ap9 (b:List UInt8) (hb:b.length≤1000000) (k A3 at_:Nat) (ys:List ByteArray) (n:Nat) (hy:ys.length=A3) (hk:A3+k=50) (ha:at_≤b.length) (hn:300+k<n) (h0:0<k→A3<50) :
  ((0<k→∀ l,¬ Xt A3 (b.drop at_) l)∧(Bu n ys (at_:Int) (bL b) (at_:Int) (A3:Int)).bind Ai0=some (ys++List.map B7 [],(((at_+AdH []:Nat):Int),()))) ∨
  (∃ l,Xt A3 (b.drop at_) l∧0<k∧∃ n',300+k≤n'∧(Bu n ys (at_:Int) (bL b) (at_:Int) (A3:Int)).bind Ai0=(Bu n' (ys++[B7 l]) ((at_+16+l.length:Nat):Int) (bL b) ((at_+16+l.length:Nat):Int) ((A3+1:Nat):Int)).bind Ai0):=by
 obtain⟨n,rfl⟩:∃ m,n=m+1:=⟨n-1,by omega⟩
 have hc:(b.drop at_).length=b.length-at_:=ZaG ..
 rw [Bu]
 have hsub:∀ x y:Nat,x≤y→at_+y≤b.length→Gx (bL b) ((at_+x:Nat):Int) ((at_+y:Nat):Int)=some (bL (((b.drop at_).drop x).take (y-x))):=fun x y hxy hyb=>by
  rw [Ajo (by omega) (by rw [KI]; omega),Au4,Au3,Zbg,show at_+y-(at_+x)=y-x by omega]
 have e0:IntKind.i64.wrap (((bL b).length:Int)-(at_:Int))=(((b.drop at_).length:Nat):Int):=by rw [KI,Bv (by omega) (by omega)]; omega
 have e1:IntKind.i64.wrap ((at_:Int)+1)=((at_+1:Nat):Int):=wN _ (by omega)
 have e2:IntKind.i64.wrap (((at_+1:Nat):Int)+3)=((at_+4:Nat):Int):=by rw [Bv (by omega) (by omega)]; omega
 have e3:IntKind.i64.wrap ((at_:Int)+15)=((at_+15:Nat):Int):=by rw [Bv (by omega) (by omega)]; omega
 have e4:IntKind.i64.wrap ((at_:Int)+16)=((at_+16:Nat):Int):=by rw [Bv (by omega) (by omega)]; omega
 have e5:IntKind.i64.wrap ((A3:Int)+1)=((A3+1:Nat):Int):=wN _ (by omega)
 rw [e0,e1,e2,e3,e4,e5]
 by_cases h16:16≤(b.drop at_).length
 · rw [show decide ((((b.drop at_).length:Nat):Int)≥16)=true by simp; omega,Zab,hsub 1 4 (by omega) (by omega),Zaa,show 4-1=3 from rfl]
   have ht3:(((b.drop at_).drop 1).take 3).length=3:=by rw [ZaE,ZaG]; omega
   rw [length_eq ht3 (by omega),Zaa]
   cases hv:Aaw 0 (((b.drop at_).drop 1).take 3) with
   | none =>
    left
    refine⟨fun _ l hf=>?_,?_⟩
    · rw [Akx hf,Ap7 (by have:=hf.1; omega)] at hv; cases hv
    · simp only [AfM,Zaa]
      rw [show Cp (-1) 0 200=false by decide]
      simp [Ai0,AdH]
   | some m =>
    obtain⟨hm,hdg⟩:=Ap8 ht3 hv
    have hfm:∀ l,Xt A3 (b.drop at_) l→l.length=m:=fun l hf=>by
     have:=Akx hf
     rw [hdg] at this
     exact(Akv 3 (by omega) (by have:=hf.1; omega) this).symm
    simp only [AfM,Zaa]
    by_cases h200:m≤200
    · have hb1:Cp (m:Int) 0 200=true:=D8.2 (by omega)
      rw [hb1]
      simp only [ZaB,Za4,Zab]
      have e6:IntKind.i64.wrap (16+(m:Int))=((16+m:Nat):Int):=by rw [Bv (by omega) (by omega)]; omega
      rw [e6]
      by_cases hlen:16+m≤(b.drop at_).length
      · have e7:IntKind.i64.wrap (((at_+16:Nat):Int)+(m:Int))=((at_+(16+m):Nat):Int):=by rw [Bv (by omega) (by omega)]; omega
        have e8:IntKind.i64.wrap (((at_+(16+m):Nat):Int)-1)=((at_+(15+m):Nat):Int):=by rw [Bv (by omega) (by omega)]; omega
        rw [e7,e8,show decide ((((b.drop at_).length:Nat):Int)<((16+m:Nat):Int))=false by simp; omega,Zad,hsub 15 (15+m) (by omega) (by omega),Zaa,show 15+m-15=m by omega,Af8]
        have hlm:(((b.drop at_).drop 15).take m).length=m:=by rw [ZaE,ZaG]; omega
        generalize hl:((b.drop at_).drop 15).take m=l at *
        rw [Ajn (by omega) (by omega) (by omega),Zaa]
        have h0m:=hsub 0 (16+m) (by omega) (by omega)
        rw [Zbo,Zar,Zbr] at h0m
        rw [h0m,Zaa,Af8,AnQ]
        by_cases heq:AdG l A3=(b.drop at_).take (16+m)
        · have hfit:Xt A3 (b.drop at_) l:=⟨by omega,by rw [heq]; exact List.take_prefix _ _⟩
          rw [Zaf heq]
          simp only [ZaB,Za4,Zab]
          by_cases h50:A3=50
          · rw [show decide ((ys.length:Int)=50)=true by simp; omega,Zab]
            left
            refine⟨fun hk0=>by have:=h0 hk0; omega,by simp [Ai0,AdH]⟩
          · rw [show decide ((ys.length:Int)=50)=false by simp; omega,Zad,AH (by simp; omega),Zaa]
            right
            refine⟨l,hfit,by omega,n,by omega,?_⟩
            rw [hlm,show at_+(16+m)=at_+16+m by omega]
        · rw [Zae heq]
          simp only [Za4,ZaB,Zad]
          left
          refine⟨fun _ l' hf=>heq ?_,by simp [Ai0,AdH]⟩
          have h1:=hfm l' hf
          have h2:=Asq hf
          rw [h1,hl] at h2
          rw [h2]
          obtain⟨_,tl,htl⟩:=hf
          rw [← htl,ZaP (by rw [Ci]; omega),ZaL (by rw [Ci]; omega)]
      · rw [show decide ((((b.drop at_).length:Nat):Int)<((16+m:Nat):Int))=true by simp; omega,Zab]
        left
        refine⟨fun _ l hf=>hlen ?_,by simp [Ai0,AdH]⟩
        have h1:=hf.2.length_le
        rw [Ci,hfm l hf] at h1
        exact h1
    · have hb1:Cp (m:Int) 0 200=false:=WV.2 (by omega)
      rw [hb1]
      simp only [Za4,ZaB,Zad]
      left
      refine⟨fun _ l hf=>h200 ?_,by simp [Ai0,AdH]⟩
      have:=hf.1
      rw [hfm l hf] at this; exact this
 · rw [show decide ((((b.drop at_).length:Nat):Int)≥16)=false by simp; omega,Zad]
   left
   refine⟨fun _ l hf=>h16 ?_,by simp [Ai0,AdH]⟩
   have h1:=hf.2.length_le
   rw [Ci] at h1
   omega
theorem Awi (b:List UInt8) (hb:b.length≤1000000):∀ (k A3 at_:Nat)(ys:List ByteArray)(n:Nat),ys.length=A3→A3+k=50→at_≤b.length→300+k<n→∃ r,Rd k A3 (b.drop at_) r∧(Bu n ys (at_:Int) (bL b) (at_:Int) (A3:Int)).bind Ai0=some (ys++r.map B7,(((at_+AdH r:Nat):Int),())):=by
 intro k
 induction k with
 | zero =>
  intro A3 at_ ys n hy hk ha hn
  exact⟨[],.full _ _,Ap9 b hb 0 A3 at_ ys n hy hk ha hn (fun h=>absurd h (Nat.lt_irrefl 0)) |>.elim (fun h=>h.2) (fun h=>by obtain⟨l,_,h0,_⟩:=h; omega)⟩
 | succ k ih =>
  intro A3 at_ ys n hy hk ha hn
  rcases Ap9 b hb (k+1) A3 at_ ys n hy hk ha hn (fun _=>by omega) with⟨h1,h2⟩ | ⟨l,hf,_,n',hn',h2⟩
  · exact⟨[],Asp (h1 (by omega)),h2⟩
  · have hl:=hf.1
    have hle:=hf.2.length_le
    rw [Ci,ZaG] at hle
    obtain⟨r,q1,q2⟩:=ih (A3+1) (at_+16+l.length) (ys++[B7 l]) n' (by simp [hy]) (by omega) (by omega) (by omega)
    refine⟨l::r,.more hf ?_,?_⟩
    · rw [Zbg,show at_+(16+l.length)=at_+16+l.length by omega]; exact q1
    · rw [h2,q2]
      simp only [Zbt,AdH,Za8,List.singleton_append]
      rw [show at_+16+l.length+AdH r=at_+(16+l.length+AdH r) by omega]
theorem AfN {n:Nat} {b:List UInt8} (hb:b.length≤1000000) (hn:350<n):∃ r,Rd 50 0 b r∧Hp n (bL b)=some (r.map B7,(((AdH r:Nat):Int),())):=by
 obtain⟨r,h1,h2⟩:=Awi b hb 50 0 0 [] n rfl rfl (by omega) (by omega)
 rw [Zar] at h1
 refine⟨r,h1,?_⟩
 rw [show((0:Nat):Int)=0 from rfl,Zas,Zav] at h2
 rw [← h2]
 unfold Hp
 congr 1
 funext v0
 rcases v0 with v1 | v1 | v1 <;> rfl
theorem AfO {n:Nat} {b:List UInt8} {r:List (List UInt8)} (hb:b.length≤1000000) (hn:350<n) (hr:Rd 50 0 b r):Hp n (bL b)=some (r.map B7,(((AdH r:Nat):Int),())):=by
 obtain⟨r',h1,h2⟩:=AfN (n:=n) hb hn
 rw [hr.one h1]; exact h2
theorem Asr {n:Nat} {lines:List ByteArray} (m:Nat) (hb:lines.length≤4000000000000000000) (hn:lines.length<n) (F:Nat→Int→Option ((List ByteArray×Unit) ⊕ (Bool×Unit)))
  (hF:∀ n i,F (n+1) i=bif decide (i<(lines.length:Int)) then(A3 lines i).bind (fun v0=>bif decide ((↑v0.size:Int)>(m:Int)) then(some (.inr (false,()))) else F n (IntKind.i64.wrap (i+1))) else some (.inl (lines,()))) :
  F n 0=some (bif lines.all (fun s=>decide (s.size≤m)) then .inl (lines,()) else .inr (false,())):=by
 have key:=Ajm (F:=fun n (_:Unit) i=>F n i) (l:=lines) (N:=0) (T:=fun s i a=>bif decide ((a.size:Int)>(m:Int)) then .inr (.inr (false,())) else .inl s) (E:=fun _=>.inl (lines,()))
  (B:=fun n _ i v0=>bif decide ((↑v0.size:Int)>(m:Int)) then(some (.inr (false,()))) else F n (IntKind.i64.wrap (i+1))) (fun _ _=>True)
  (fun n _ i=>hF n i) (fun n s i hi _ _=>by
   cases decide ((lines[i].size:Int)>(m:Int))
   · exact⟨rfl,trivial⟩
   · rfl) hb lines.length () 0 n (by simp) (by omega) trivial
 rw [show((0:Nat):Int)=0 from rfl,Zar] at key
 rw [key]
 congr 1
 have H:∀ (l:List ByteArray)(i:Nat),ArS (fun(s:Unit)(i:Nat)(a:ByteArray)=>bif decide ((a.size:Int)>(m:Int)) then .inr (.inr (false,())) else .inl s) (fun _=>(.inl (lines,()):(List ByteArray×Unit) ⊕ (Bool×Unit))) i () l=bif l.all (fun s=>decide (s.size≤m)) then .inl (lines,()) else .inr (false,()):=by
  intro l
  induction l with
  | nil=>intro i; rfl
  | cons a l ih =>
   intro i
   unfold ArS
   by_cases ha:a.size≤m
   · rw [show decide ((a.size:Int)>(m:Int))=false by simp; omega,ZaU,Zaf ha]
     exact ih (i+1)
   · rw [show decide ((a.size:Int)>(m:Int))=true by simp; omega,ZaU,Zae ha]
     rfl
 exact H lines 0
theorem Ass {n:Nat} {lines:List ByteArray} (hb:lines.length≤4000000000000000000) (hn:lines.length<n):Ug n lines=some (SS lines,()):=by
 unfold Ug
 rw [Asr 200 hb hn (fun n i=>Nn n lines i) (fun n i=>rfl),Zaa]
 unfold SS
 cases lines.all (fun s=>decide (s.size≤200)) with
 | false=>simp
 | true =>
  show some (decide ((lines.length:Int)≤50),())=_
  by_cases h1:lines.length≤50
  · rw [show decide ((lines.length:Int)≤50)=true by simp; omega,Zaf h1]; rfl
  · rw [show decide ((lines.length:Int)≤50)=false by simp; omega,Zae h1]; rfl
theorem Au7 {n:Nat} (h:60≤n):GT n=some (true,()):=by
 obtain⟨k,rfl⟩:∃ k,n=k+60:=⟨n-60,by omega⟩
 exact Auv k
theorem Awj {lines:List ByteArray} {m:Nat} (h:∀ s∈lines,s.size≤m):∀ l∈Aiw lines,l.length≤m:=fun l hl=>by
 obtain⟨s,hs1,rfl⟩:=ZaR.1 hl
 rw [← Ih]; exact h s hs1
theorem Au8 {α:Type} {l:List α} {k:Nat} (h:k≤l.length):Gx l 0 (k:Int)=some (l.take k):=by
 have:=Ajo (l:=l) (a:=0) (b:=k) (by omega) h
 simpa using this
theorem RL {l:List UInt8} {i:Nat} (h:i<l.length):NX (B7 l) (i:Int)=some ⟨(l[i].toNat:Int)⟩:=by
 show(if h:i<(B7 l).size then some (⟨((B7 l)[i]'h).toNat⟩:IK .u8) else none)=_
 rw [dif_pos (by rw [BN]; exact h)]
 rfl
theorem Vi (many:Nat) (hm:many≤1000):∀ (n i u:Nat)(s:List UInt8),many-i<n→i≤many→u≤1000000000→s.length≤2000-(many-i)→I6 n (u:Int) (many:Int) (B7 s) (i:Int)=some (B7 (dg (many-i) u++s),())
 | 0,_,_,_,h,_,_,_=>absurd h (Zam _)
 | n+1,i,u,s,h,hi,hu,hs=>by
  rw [I6]
  by_cases hx:i<many
  · have e:IntKind.u8.wrap (IntKind.i64.wrap (48+((u:Nat):Int).tmod 10))=((48+u % 10:Nat):Int):=by
     have:((u:Nat):Int).tmod 10=((u % 10:Nat):Int):=rfl
     rw [this,Bv (by omega) (by omega),Ap6 (by omega) (by omega)]; omega
    have e2:IntKind.i64.wrap (((u:Nat):Int).tdiv 10)=((u / 10:Nat):Int):=by
     have:((u:Nat):Int).tdiv 10=((u / 10:Nat):Int):=rfl
     rw [this,Bv (by omega) (by omega)]
    have e3:AcT [IK.mk (((48+u % 10:Nat):Int))]=B7 [UInt8.ofNat (48+u % 10)]:=rfl
    rw [show decide ((i:Int)<(many:Int))=true by simp; omega,Zab,e,e2,e3,Bw (by simp; omega),Zaa,wN i (by omega)]
    rw [Vi many hm n (i+1) (u / 10) _ (by omega) (by omega) (by omega) (by simp; omega)]
    obtain⟨k,hk⟩:∃ k,many-i=k+1:=⟨many-i-1,by omega⟩
    rw [hk,show many-(i+1)=k by omega,dg]
    simp
  · have:many-i=0:=by omega
    rw [show decide ((i:Int)<(many:Int))=false by simp; omega,this]
    rfl
theorem ST {n u many:Nat} (hm:many≤5) (hu:u≤1000000000) (hn:many<n):KD n (u:Int) (many:Int)=some (B7 (dg many u),()):=by
 unfold KD
 have h:=Vi many (by omega) n 0 u [] (by omega) (by omega) hu (by simp)
 rw [show((0:Nat):Int)=0 from rfl,Zbi,Zbr] at h
 rw [show B []=B7 [] from rfl,h]; rfl
theorem XY (full:List UInt8) (hf:full.length≤1000):∀ (n i c:Nat),full.length-i<n→i≤full.length→c≤1000000000+i*256000→JM n (B7 full) (c:Int) (i:Int)=some (((c+Ack i (full.drop i):Nat):Int),())
 | 0,_,_,h,_,_=>absurd h (Zam _)
 | n+1,i,c,h,hi,hc=>by
  rw [JM,BN]
  by_cases hx:i<full.length
  · have hd:full.drop i=full[i]::full.drop (i+1):=Zaj hx
    rw [show decide ((i:Int)<(full.length:Int))=true by simp; omega,Zab,RL hx,Zaa,hd]
    have h8:=full[i].toNat_lt
    have hle:(i+1)*(full[i].toNat+1)≤1000*256:=Nat.mul_le_mul (by omega) (by omega)
    have hw:IntKind.i64.wrap ((c:Int)+IntKind.i64.wrap (IntKind.i64.wrap ((i:Int)+1)*IntKind.i64.wrap (IntKind.i64.wrap ((full[i].toNat:Nat):Int)+1)))=((c+(i+1)*(full[i].toNat+1):Nat):Int):=by
     rw [wN i (by omega),Bv (x:=((full[i].toNat:Nat):Int)) (by omega) (by omega),wN (full[i].toNat) (by omega)]
     rw [show((i+1:Nat):Int)*((full[i].toNat+1:Nat):Int)=(((i+1)*(full[i].toNat+1):Nat):Int) by push_cast; rfl]
     generalize (i+1)*(full[i].toNat+1)=q at *
     rw [Bv (x:=((q:Nat):Int)) (by omega) (by omega),Bv (by omega) (by omega)]
     omega
    rw [hw,wN i (by omega),XY full hf n (i+1) _ (by omega) (by omega) (by omega)]
    simp only [Ack]
    rw [Zbf]
  · have hd:full.drop i=[]:=by simp; omega
    rw [show decide ((i:Int)<(full.length:Int))=false by simp; omega,hd]
    simp [Ack]
theorem AlL {n i:Nat} {l:List UInt8} (hl:l.length≤900) (hi:i≤1000) (hn:l.length<n):Ue n (B7 l) (i:Int)=some (((chk l i:Nat):Int),()):=by
 unfold Ue
 have h7:IntKind.i64.wrap (7*IntKind.i64.wrap ((i:Int)+1))=((7*(i+1):Nat):Int):=by
  rw [wN i (by omega),Bv (by omega) (by omega)]; push_cast; rfl
 have h:=XY l (by omega) n 0 (7*(i+1)) (by omega) (by omega) (by omega)
 rw [show((0:Nat):Int)=0 from rfl,Zar] at h
 rw [h7,h,Zaa]
 rfl
theorem Ajp {n i:Nat} {l:List UInt8} (hl:l.length≤900) (hi:i≤1000) (hn:l.length+5<n):N8 n (B7 l) (i:Int)=some (B7 (AdG l i),()):=by
 unfold N8
 have d1:=ST (n:=n) (u:=l.length) (many:=3) (by decide) (by omega) (by omega)
 have d2:=ST (n:=n) (u:=999-l.length) (many:=3) (by decide) (by omega) (by omega)
 have d3:=ST (n:=n) (u:=chk l i) (many:=5) (by decide) (by have:=Asf l i; omega) (by omega)
 rw [show((3:Nat):Int)=3 from rfl] at d1 d2
 rw [show((5:Nat):Int)=5 from rfl] at d3
 have w2:IntKind.i64.wrap (999-(l.length:Int))=((999-l.length:Nat):Int):=by rw [Bv (by omega) (by omega)]; omega
 simp only [BN]
 rw [show decide ((l.length:Int)>999)=false by simp; omega,Zad,w2,d1,AlL hl hi (by omega)]
 simp only [Zaa]
 rw [show B [91]=B7 [91] from rfl,show B [47]=B7 [47] from rfl,show B [93]=B7 [93] from rfl,show B [10]=B7 [10] from rfl]
 rw [Bw (by simp [Di])]
 simp only [Zaa]
 rw [Bw (by simp [Di])]
 simp only [Zaa]
 rw [d2]
 simp only [Zaa]
 rw [Bw (by simp [Di])]
 simp only [Zaa]
 rw [Bw (by simp [Di])]
 simp only [Zaa]
 rw [d3]
 simp only [Zaa]
 rw [Bw (by simp [Di])]
 simp only [Zaa]
 rw [Bw (by simp [Di])]
 simp only [Zaa]
 rw [Bw (by simp [Di]; omega)]
 simp only [Zaa]
 rw [Bw (by simp [Di]; omega)]
 simp only [Zaa]
 unfold AdG
 simp
theorem Aax (lines:List ByteArray) (hs:∀ s∈lines,s.size≤200) (hl:lines.length≤1000):∀ (n i:Nat),210+(lines.length-i)<n→i≤lines.length→Mg n lines (B7 (Ei 0 ((Aiw lines).take i))) (i:Int)=some (B7 (Ei 0 (Aiw lines)),())
 | 0,_,h,_=>absurd h (Zam _)
 | n+1,i,h,hi=>by
  rw [Mg]
  by_cases hx:i<lines.length
  · rw [show decide ((i:Int)<(lines.length:Int))=true by simp; omega,Zab,BS hx,Zaa]
    have hsz:lines[i].data.toList.length≤200:=by rw [← Ih]; exact hs _ (Za1 hx)
    have hr:=Ajp (n:=n) (i:=i) (l:=lines[i].data.toList) (by omega) (by omega) (by omega)
    rw [Aso] at hr
    rw [hr]
    simp only [Zaa]
    have hls:=Awj hs
    have hb:=AfK ((Aiw lines).take i) 0 fun l hl=>hls l (List.mem_of_mem_take hl)
    have hti:((Aiw lines).take i).length=i:=by rw [ZaE,WW]; omega
    rw [Bw (by rw [Ci]; rw [hti] at hb; omega),Zaa,wN i (by omega)]
    have hst:Ei 0 ((Aiw lines).take i)++AdG lines[i].data.toList i=Ei 0 ((Aiw lines).take (i+1)):=by
     rw [ZaK (by rw [WW]; exact hx),Acl,hti]
     simp [Ei,Aiw]
    rw [hst]
    exact Aax lines hs hl n (i+1) (by omega) (by omega)
  · have:i=lines.length:=by omega
    subst this
    rw [show decide ((lines.length:Int)<(lines.length:Int))=false by simp,Zad,ZaL (by rw [WW]; omega)]
theorem AnT {n:Nat} {lines:List ByteArray} (hs:∀ s∈lines,s.size≤200) (hl:lines.length≤1000) (hn:210+lines.length<n):Xr n lines=some (B7 (Ei 0 (Aiw lines)),()):=by
 unfold Xr
 have h:=Aax lines hs hl n 0 (by omega) (by omega)
 rw [show((0:Nat):Int)=0 from rfl] at h
 simp only [List.take_zero,Ei] at h
 rw [show B []=B7 [] from rfl,h]
 rfl
theorem AdI (b:List UInt8) (out:List ByteArray) (at_:Nat) (ha:at_+4≤b.length) (hb:b.length≤1000000):∀ (n j a:Nat),3-j<n→j≤3→a<10 ^ j→Hq n (B7 b) out (at_:Int) (a:Int) ((at_+1+j:Nat):Int)=some (match Aaw a ((b.drop (at_+1+j)).take (3-j)) with | some v=>.inl (B7 b,(out,((at_:Int),((v:Int),())))) | none=>.inr (out,((at_:Int),())))
 | 0,_,_,h,_,_=>absurd h (Zam _)
 | n+1,j,a,h,hj,ha2=>by
  rw [Hq]
  have e1:IntKind.i64.wrap ((at_:Int)+3)=((at_+3:Nat):Int):=by rw [Bv (by omega) (by omega)]; omega
  rw [e1]
  by_cases hx:j<3
  · have hlt:at_+1+j<b.length:=by omega
    have hd:b.drop (at_+1+j)=b[at_+1+j]::b.drop (at_+1+j+1):=Zaj hlt
    obtain⟨k,hk⟩:∃ k,3-j=k+1:=⟨2-j,by omega⟩
    rw [show decide (((at_+1+j:Nat):Int)≤((at_+3:Nat):Int))=true by simp; omega,Zab,RL hlt,Zaa,hd,hk,List.take_succ_cons]
    simp only [Aaw,Auw,Zaa]
    have h3:10 ^ j≤10 ^ 3:=Zbk (by decide) (by omega)
    have h8:=b[at_+1+j].toNat_lt
    by_cases h48:b[at_+1+j].toNat<48
    · rw [show decide (((b[at_+1+j].toNat:Nat):Int)<48)=true by simp; omega,show decide (48≤b[at_+1+j].toNat)=false by simp; omega]
      rfl
    · rw [show decide (((b[at_+1+j].toNat:Nat):Int)<48)=false by simp; omega,show decide (48≤b[at_+1+j].toNat)=true by simp; omega]
      by_cases h57:b[at_+1+j].toNat≤57
      · rw [show decide (((b[at_+1+j].toNat:Nat):Int)>57)=false by simp; omega,Zaf h57]
        simp only [Za4,Zab,Zad,Zb0]
        have e1:IntKind.i64.wrap (IntKind.i64.wrap (10*(a:Int))+IntKind.i64.wrap (IntKind.u8.wrap (((b[at_+1+j].toNat:Nat):Int)-48)))=((10*a+(b[at_+1+j].toNat-48):Nat):Int):=by
         rw [Ap6 (by omega) (by omega),Bv (x:=10*(a:Int)) (by omega) (by omega),Bv (x:=((b[at_+1+j].toNat:Nat):Int)-48) (by omega) (by omega),Bv (by omega) (by omega)]
         omega
        rw [e1,wN _ (by omega)]
        have:=AdI b out at_ ha hb n (j+1) (10*a+(b[at_+1+j].toNat-48)) (by omega) (by omega) (by rw [Zbq]; omega)
        rw [show at_+1+(j+1)=at_+1+j+1 by omega,show 3-(j+1)=k by omega] at this
        exact this
      · rw [show decide (((b[at_+1+j].toNat:Nat):Int)>57)=true by simp; omega,Zae h57]
        rfl
  · have hj3:j=3:=by omega
    subst hj3
    rw [show decide (((at_+1+3:Nat):Int)≤((at_+3:Nat):Int))=false by simp; omega]
    simp [Aaw]
def Ai1 {A:Type}:((List ByteArray×Int×A) ⊕ (List ByteArray×Int×A))→Option (List ByteArray×Int×Unit)
 | .inl v1=>some (v1.fst,(v1.snd.fst,()))
 | .inr v1=>some (v1.fst,(v1.snd.fst,()))
theorem Acn {l:List UInt8} {a b:Nat} (h:a≤b) (h2:b≤l.length):Ki (B7 l) (a:Int) (b:Int)=some (B7 ((l.drop a).take (b-a))):=by
 unfold Ki
 rw [if_pos ⟨by omega,by omega,by rw [BN]; omega⟩]
 congr 1
 have e:∀ s:ByteArray,s=B7 s.data.toList:=fun s=>(Nx s).symm
 rw [e ((B7 l).extract _ _)]
 congr 1
 rw [ByteArray.data_extract]
 simp [B7]
theorem ApA (b:List UInt8) (hb:b.length≤1000000) (k A3 at_:Nat) (ys:List ByteArray) (n:Nat) (hy:ys.length=A3) (hk:A3+k=50) (ha:at_≤b.length) (hn:300+k<n) :
  ((0<k→∀ l,¬ Xt A3 (b.drop at_) l)∧(Cf n (B7 b) ys (at_:Int)).bind Ai1=some (ys++List.map B7 [],(((at_+AdH []:Nat):Int),()))) ∨
  (∃ l,Xt A3 (b.drop at_) l∧0<k∧∃ n',300+k≤n'∧(Cf n (B7 b) ys (at_:Int)).bind Ai1=(Cf n' (B7 b) (ys++[B7 l]) ((at_+16+l.length:Nat):Int)).bind Ai1):=by
 obtain⟨n,rfl⟩:∃ m,n=m+1:=⟨n-1,by omega⟩
 have hc:(b.drop at_).length=b.length-at_:=ZaG ..
 rw [Cf]
 by_cases h50:A3=50
 · rw [show decide ((ys.length:Int)<50)=false by simp; omega,Zad]
   left
   exact⟨fun h=>by omega,by simp [Ai1,AdH]⟩
 rw [show decide ((ys.length:Int)<50)=true by simp; omega,Zab,BN]
 have e1:IntKind.i64.wrap ((at_:Int)+1)=((at_+1+0:Nat):Int):=wN _ (by omega)
 have e4:IntKind.i64.wrap ((at_:Int)+16)=((at_+16:Nat):Int):=by rw [Bv (by omega) (by omega)]; omega
 rw [e1,e4]
 by_cases h16:16≤(b.drop at_).length
 · rw [show decide (((at_+16:Nat):Int)≤((b.length:Nat):Int))=true by simp; omega,Zab]
   have hloop:=AdI b ys at_ (by omega) hb n 0 0 (by omega) (by omega) (by decide)
   rw [show((0:Nat):Int)=0 from rfl,Zbr] at hloop
   rw [hloop,Zaa,Zbo,← Zbg]
   have ht3:(((b.drop at_).drop 1).take 3).length=3:=by rw [ZaE,ZaG]; omega
   cases hv:Aaw 0 (((b.drop at_).drop 1).take 3) with
   | none =>
    left
    refine⟨fun _ l hf=>?_,by simp [Ai1,AdH]⟩
    rw [Akx hf,Ap7 (by have:=hf.1; omega)] at hv; cases hv
   | some m =>
    obtain⟨hm,hdg⟩:=Ap8 ht3 hv
    have hfm:∀ l,Xt A3 (b.drop at_) l→l.length=m:=fun l hf=>by
     have:=Akx hf
     rw [hdg] at this
     exact(Akv 3 (by omega) (by have:=hf.1; omega) this).symm
    simp only [Za3,BN]
    have e3:IntKind.i64.wrap ((at_:Int)+15)=((at_+15:Nat):Int):=by rw [Bv (by omega) (by omega)]; omega
    have e4:IntKind.i64.wrap ((at_:Int)+16)=((at_+16:Nat):Int):=by rw [Bv (by omega) (by omega)]; omega
    rw [e3,e4]
    by_cases h200:m≤200
    · rw [show decide ((m:Int)>200)=false by simp; omega]
      simp only [Za4,Zab]
      have e7:IntKind.i64.wrap (((at_+16:Nat):Int)+(m:Int))=((at_+(16+m):Nat):Int):=by rw [Bv (by omega) (by omega)]; omega
      have e8:IntKind.i64.wrap (((at_+15:Nat):Int)+(m:Int))=((at_+(15+m):Nat):Int):=by rw [Bv (by omega) (by omega)]; omega
      rw [e7,e8]
      by_cases hlen:16+m≤(b.drop at_).length
      · have hsub:∀ x y:Nat,x≤y→at_+y≤b.length→Ki (B7 b) ((at_+x:Nat):Int) ((at_+y:Nat):Int)=some (B7 (((b.drop at_).drop x).take (y-x))):=fun x y hxy hyb=>by
         rw [Acn (by omega) (by omega),Zbg,show at_+y-(at_+x)=y-x by omega]
        rw [show decide (((at_+(16+m):Nat):Int)>((b.length:Nat):Int))=false by simp; omega,Zad,hsub 15 (15+m) (by omega) (by omega),Zaa,show 15+m-15=m by omega]
        have hlm:(((b.drop at_).drop 15).take m).length=m:=by rw [ZaE,ZaG]; omega
        generalize hl:((b.drop at_).drop 15).take m=l at *
        have hfr:=Ajp (n:=n) (i:=ys.length) (l:=l) (by omega) (by omega) (by omega)
        rw [hfr,Zaa,hy]
        have h0m:=hsub 0 (16+m) (by omega) (by omega)
        rw [Zbo,Zar,Zbr] at h0m
        rw [h0m,Zaa,AnQ]
        by_cases heq:AdG l A3=(b.drop at_).take (16+m)
        · have hfit:Xt A3 (b.drop at_) l:=⟨by omega,by rw [heq]; exact List.take_prefix _ _⟩
          rw [Zaf heq]
          simp only [ZaB,Za4,Zad]
          rw [AH (by simp; omega),Zaa]
          right
          refine⟨l,hfit,by omega,n,by omega,?_⟩
          rw [hlm,show at_+(16+m)=at_+16+m by omega]
        · rw [Zae heq]
          simp only [Za4,ZaB,Zab]
          left
          refine⟨fun _ l' hf=>heq ?_,by simp [Ai1,AdH]⟩
          have h1:=hfm l' hf
          have h2:=Asq hf
          rw [h1,hl] at h2
          rw [h2]
          obtain⟨_,tl,htl⟩:=hf
          rw [← htl,ZaP (by rw [Ci]; omega),ZaL (by rw [Ci]; omega)]
      · rw [show decide (((at_+(16+m):Nat):Int)>((b.length:Nat):Int))=true by simp; omega,Zab]
        left
        refine⟨fun _ l hf=>hlen ?_,by simp [Ai1,AdH]⟩
        have h1:=hf.2.length_le
        rw [Ci,hfm l hf] at h1
        exact h1
    · rw [show decide ((m:Int)>200)=true by simp; omega]
      simp only [Za4,ZaB,Zad]
      left
      refine⟨fun _ l hf=>h200 ?_,by simp [Ai1,AdH]⟩
      have:=hf.1
      rw [hfm l hf] at this; exact this
 · rw [show decide (((at_+16:Nat):Int)≤((b.length:Nat):Int))=false by simp; omega,Zad]
   left
   refine⟨fun _ l hf=>h16 ?_,by simp [Ai1,AdH]⟩
   have h1:=hf.2.length_le
   rw [Ci] at h1
   omega
theorem Awk (b:List UInt8) (hb:b.length≤1000000):∀ (k A3 at_:Nat)(ys:List ByteArray)(n:Nat),ys.length=A3→A3+k=50→at_≤b.length→300+k<n→∃ r,Rd k A3 (b.drop at_) r∧(Cf n (B7 b) ys (at_:Int)).bind Ai1=some (ys++r.map B7,(((at_+AdH r:Nat):Int),())):=by
 intro k
 induction k with
 | zero =>
  intro A3 at_ ys n hy hk ha hn
  exact⟨[],.full _ _,ApA b hb 0 A3 at_ ys n hy hk ha hn |>.elim (fun h=>h.2) (fun h=>by obtain⟨l,_,h0,_⟩:=h; omega)⟩
 | succ k ih =>
  intro A3 at_ ys n hy hk ha hn
  rcases ApA b hb (k+1) A3 at_ ys n hy hk ha hn with⟨h1,h2⟩ | ⟨l,hf,_,n',hn',h2⟩
  · exact⟨[],Asp (h1 (by omega)),h2⟩
  · have hl:=hf.1
    have hle:=hf.2.length_le
    rw [Ci,ZaG] at hle
    obtain⟨r,q1,q2⟩:=ih (A3+1) (at_+16+l.length) (ys++[B7 l]) n' (by simp [hy]) (by omega) (by omega) (by omega)
    refine⟨l::r,.more hf ?_,?_⟩
    · rw [Zbg,show at_+(16+l.length)=at_+16+l.length by omega]; exact q1
    · rw [h2,q2]
      simp only [Zbt,AdH,Za8,List.singleton_append]
      rw [show at_+16+l.length+AdH r=at_+(16+l.length+AdH r) by omega]
theorem Ai2 {n:Nat} {b:List UInt8} {r:List (List UInt8)} (hb:b.length≤1000000) (hn:350<n) (hr:Rd 50 0 b r):OJ n (B7 b)=some (r.map B7,(((AdH r:Nat):Int),())):=by
 obtain⟨r',h1,h2⟩:=Awk b hb 50 0 0 [] n rfl rfl (by omega) (by omega)
 rw [Zar] at h1
 rw [hr.one h1]
 rw [show((0:Nat):Int)=0 from rfl,Zas,Zav] at h2
 rw [← h2]
 unfold OJ
 congr 1
 funext v0
 rcases v0 with v1 | v1 <;> rfl
theorem Rd.le:∀ {k i:Nat} {b:List UInt8} {r:List (List UInt8)},Rd k i b r→r.length≤k
 | _,_,_,_,.full _ _=>by simp
 | _,_,_,_,.stop _=>by simp
 | _,_,_,_,.more _ h=>by have:=h.le; simp; omega
end Go.Proofs.YtkpgggfibljflaaGreatDoor
