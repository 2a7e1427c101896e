/- The plain law. -/
import Derived.Test.YtkpgggfibljflaaGreatDoorgBL01
set_option linter.all false
set_option maxRecDepth 100000
namespace Go.Proofs.YtkpgggfibljflaaGreatDoor
open Go Go.RowKit Go.Proofs
def bL (l:List UInt8):List (IK .u8):=l.map fun b=>⟨(b.toNat:Int)⟩
theorem Bd (l:List UInt8):(bL l).length=l.length:=by simp [bL]
theorem K2 (a b:List UInt8):bL (a++b)=bL a++bL b:=by simp [bL]
theorem Ix (l:List UInt8) (k:Nat):(bL l).take k=bL (l.take k):=by simp [bL,List.map_take]
theorem JY (l:List UInt8) (k:Nat):(bL l).drop k=bL (l.drop k):=by simp [bL,List.map_drop]
theorem JZ (s:ByteArray):btsI s=bL s.data.toList:=by
  unfold btsI bytI bL
  rw [List.map_map]; rfl
theorem Iy (l:List UInt8):btsI (mkB l)=bL l:=by
  rw [JZ]; rfl
theorem FX (l:List UInt8):strI (bL l)=mkB l:=by
  unfold strI bL mkB
  rw [List.map_map]
  congr 2
  conv=>rhs; rw [← List.map_id l]
  apply List.map_congr_left
  intro b _
  show UInt8.ofNat ((b.toNat:Int).toNat)=b
  simp
theorem Ka (a b:List UInt8):mkB a++mkB b=mkB (a++b):=by
  have h:∀ s t:ByteArray,s.data.toList=t.data.toList→s=t:=fun s t h=>by
    rw [← mkB_data s,← mkB_data t,h]
  apply h
  simp [mkB]
theorem C8 (l:List UInt8):(mkB l).size=l.length:=by simp [mkB,ByteArray.size]
theorem Cy (s:ByteArray):s.size=s.data.toList.length:=by rw [Array.length_toList]; rfl
theorem AS {a b:List UInt8} (h:a.length+b.length≤1000000000):strAdd (mkB a) (mkB b)=some (mkB (a++b)):=by
  unfold strAdd
  rw [C8,C8,if_pos h,Ka]
theorem HT (a b:List UInt8):(mkB a).beq (mkB b)=decide (a=b):=by
  show(a.toArray == b.toArray)=_
  by_cases h:a=b <;> simp [h]
theorem Kw:∀ k,Lib.repeatL [48] k=List.replicate k 48
  | 0=>rfl
  | k+1=>by rw [Lib.repeatL,Kw k,List.replicate_succ]; rfl
theorem Iz:∀ k,dg k 0=List.replicate k 48
  | 0=>rfl
  | k+1=>by rw [dg,show 0 / 10=0 from rfl,Iz k,List.replicate_succ']; rfl
theorem Ju:∀ (k u:Nat),u<10 ^ k→0<k→(Lib.decDigits u).length≤k∧List.replicate (k-(Lib.decDigits u).length) 48++Lib.decDigits u=dg k u
  | 0,_,_,h=>absurd h (Nat.lt_irrefl 0)
  | k+1,u,h,_=>by
    rw [dg]
    by_cases hu:u<10
    · rw [Lib.decDigits,dif_pos hu,Nat.div_eq_of_lt hu,Nat.mod_eq_of_lt hu,Iz]
      simp
    · rw [Lib.decDigits,dif_neg hu]
      have hk:0<k:=by
        rcases Nat.eq_zero_or_pos k with rfl | hk
        · simp at h; omega
        · exact hk
      obtain⟨h1,h2⟩:=Ju k (u / 10) (by rw [Nat.pow_succ] at h; omega) hk
      rw [List.length_append,← h2]
      simp only [List.length_singleton]
      refine⟨by omega,?_⟩
      rw [show k+1-((Lib.decDigits (u / 10)).length+1)=k-(Lib.decDigits (u / 10)).length by omega,List.append_assoc]
theorem EY (n k u:Nat) (hk:0<k) (hk2:k≤5) (hu:u<10 ^ k):A6 n (u:Int) (k:Int)=some (mkB (dg k u),()):=by
  have h5:10 ^ k≤10 ^ 5:=Nat.pow_le_pow_right (by decide) hk2
  obtain⟨h1,h2⟩:=Ju k u hu hk
  have hi:itoaP (u:Int)=mkB (Lib.decDigits u):=by
    unfold itoaP
    show mkB (digF 20 u)=_
    rw [digF_eq 20 u (by omega) (by decide)]
  unfold A6 itoaS
  rw [show(decide (-9223372036854775808≤(u:Int)) && decide ((u:Int)≤9223372036854775807))=true by simp; omega,cond_true,Option.bind_some]
  simp only [hi,C8]
  generalize hL:(Lib.decDigits u).length=L at *
  have hw:IntKind.i64.wrap ((k:Int)-(L:Int))=((k-L:Nat):Int):=by rw [BU (by omega) (by omega)]; omega
  have hc:(if IntKind.i64.wrap ((k:Int)-(L:Int))>0 then IntKind.i64.wrap ((k:Int)-(L:Int)) else 0)=((k-L:Nat):Int):=by
    rw [hw]; split <;> omega
  rw [hc]
  have hr:repeatS n (B [48]) ((k-L:Nat):Int)=some (mkB (List.replicate (k-L) 48),()):=by
    show(bif Nat.ble (k-L) 1000 && Nat.ble (ByteArray.size (B [48])) 1000 then some (mkB (Lib.repeatL (B [48]).data.toList (k-L)),()) else none)=_
    rw [show Nat.ble (k-L) 1000=true from Nat.ble_eq_true_of_le (by omega)]
    show some (mkB (Lib.repeatL [48] (k-L)),())=_
    rw [Kw]
  rw [hr]
  simp only [Option.bind_some]
  rw [AS (by simp; omega),Option.bind_some,h2]
theorem Jv (n:Nat) (s:ByteArray):∀ (l:List UInt8)(i c:Nat)(full:List UInt8),full.length≤1000→full.drop i=l→i≤full.length→c≤1000000000+i*256000→l.length<n→Au n s (c:Int) (bL full) ((bL full).length:Int) (i:Int)=some (s,(((c+G7 i l:Nat):Int),())):=by
  induction n with
  | zero=>intro l i c full _ _ _ _ h; exact absurd h (Nat.not_lt_zero _)
  | succ n ih =>
    intro l i c full hf hd hi hc hn
    rw [Au]
    by_cases hx:i<full.length
    · have hd2:full.drop i=full[i]::full.drop (i+1):=List.drop_eq_getElem_cons hx
      rw [hd] at hd2
      subst hd2
      have hb:(bL full)[i]'(by rw [Bd]; exact hx)=⟨(full[i].toNat:Int)⟩:=by simp [bL]
      rw [show decide ((i:Int)<((bL full).length:Int))=true by rw [Bd]; simp; omega,cond_true,Bb (by rw [Bd]; exact hx),Option.bind_some,hb]
      have h8:=full[i].toNat_lt
      have hle:(i+1)*(full[i].toNat+1)≤1000*256:=Nat.mul_le_mul (by omega) (by omega)
      have hw:IntKind.i64.wrap ((c:Int)+IntKind.i64.wrap (IntKind.i64.wrap ((i:Int)+1)*IntKind.i64.wrap (IntKind.i64.wrap ((full[i].toNat:Nat):Int)+1)))=((c+(i+1)*(full[i].toNat+1):Nat):Int):=by
        rw [wN i (by omega),BU (x:=((full[i].toNat:Nat):Int)) (by omega) (by omega),wN (full[i].toNat) (by omega)]
        rw [show((i+1:Nat):Int)*((full[i].toNat+1:Nat):Int)=(((i+1)*(full[i].toNat+1):Nat):Int) by push_cast; rfl]
        generalize (i+1)*(full[i].toNat+1)=q at *
        rw [BU (x:=((q:Nat):Int)) (by omega) (by omega),BU (by omega) (by omega)]
        omega
      rw [hw,wN i (by omega),ih (full.drop (i+1)) (i+1) _ full hf rfl (by omega) (by omega) (by simp at hn ⊢; omega)]
      simp only [G7]
      rw [Nat.add_assoc]
    · have:l=[]:=by rw [← hd]; simp; omega
      subst this
      rw [show decide ((i:Int)<((bL full).length:Int))=false by rw [Bd]; simp; omega]
      simp [G7]
theorem I0:∀ (l:List UInt8)(i:Nat),G7 i l≤l.length*((i+l.length)*256)
  | [],_=>by simp [G7]
  | c::l,i=>by
    have h:=I0 l (i+1)
    have h8:=c.toNat_lt
    simp only [G7,List.length_cons]
    have h1:(i+1)*(c.toNat+1)≤(i+(l.length+1))*256:=Nat.mul_le_mul (by omega) (by omega)
    rw [show i+1+l.length=i+(l.length+1) by omega] at h
    have h2:=Nat.succ_mul l.length ((i+(l.length+1))*256)
    generalize (i+1)*(c.toNat+1)=q1 at *
    generalize (i+(l.length+1))*256=q2 at *
    rw [Nat.succ_eq_add_one] at h2
    omega
theorem Jw (a b:Nat):(a:Int).tmod (b:Int)=((a % b:Nat):Int):=rfl
theorem GU {n i:Nat} {l:List UInt8} (hl:l.length≤900) (hi:i≤1000) (hn:l.length<n):AO n (mkB l) (i:Int)=some (mkB (EX l i),()):=by
  unfold AO
  have hs:=I0 l 0
  have hs2:l.length*((0+l.length)*256)≤900*(900*256):=Nat.mul_le_mul hl (Nat.mul_le_mul (by omega) (Nat.le_refl _))
  have h7:IntKind.i64.wrap (7*IntKind.i64.wrap ((i:Int)+1))=((7*(i+1):Nat):Int):=by
    rw [wN i (by omega),BU (by omega) (by omega)]; push_cast; rfl
  rw [h7,Iy]
  have hr:=Jv n (mkB l) l 0 (7*(i+1)) l (by omega) rfl (by omega) (by omega) hn
  rw [show((0:Nat):Int)=0 from rfl] at hr
  rw [hr]
  simp only [Option.bind_some,C8]
  have d1:=EY n 3 l.length (by decide) (by decide) (by omega)
  have d2:=EY n 3 (999-l.length) (by decide) (by decide) (by omega)
  have d3:=EY n 5 (chk l i) (by decide) (by decide) (K1 l i)
  rw [show((3:Nat):Int)=3 from rfl] at d1 d2
  rw [show((5:Nat):Int)=5 from rfl] at d3
  have w2:IntKind.i64.wrap (999-(l.length:Int))=((999-l.length:Nat):Int):=by rw [BU (by omega) (by omega)]; omega
  have w3:((7*(i+1)+G7 0 l:Nat):Int).tmod 99991=((chk l i:Nat):Int):=Jw _ 99991
  rw [w2,w3,d1]
  simp only [Option.bind_some]
  rw [show B [91]=mkB [91] from rfl,show B [47]=mkB [47] from rfl,show B [93]=mkB [93] from rfl,show B [10]=mkB [10] from rfl]
  rw [AS (by simp [Bc])]
  simp only [Option.bind_some]
  rw [AS (by simp [Bc])]
  simp only [Option.bind_some]
  rw [d2]
  simp only [Option.bind_some]
  rw [AS (by simp [Bc])]
  simp only [Option.bind_some]
  rw [AS (by simp [Bc])]
  simp only [Option.bind_some]
  rw [d3]
  simp only [Option.bind_some]
  rw [AS (by simp [Bc])]
  simp only [Option.bind_some]
  rw [AS (by simp [Bc])]
  simp only [Option.bind_some]
  rw [AS (by simp [Bc]; omega)]
  simp only [Option.bind_some]
  rw [AS (by simp [Bc]; omega)]
  simp only [Option.bind_some]
  unfold EX
  simp
theorem K3 (s:ByteArray):mkB s.data.toList=s:=mkB_data s
def Fz (lines:List ByteArray):List (List UInt8):=lines.map fun s=>s.data.toList
theorem CI (a:List ByteArray):(Fz a).length=a.length:=by simp [Fz]
theorem K4 (l:List UInt8) (i:Nat) (h:l.length≤200):(EX l i).length≤216:=by rw [Aq]; omega
theorem Gd:∀ (ls:List (List UInt8))(i:Nat),(∀ l∈ls,l.length≤200)→(Ac i ls).length≤216*ls.length
  | [],_,_=>by simp [Ac]
  | l::ls,i,h=>by
    have h1:=Gd ls (i+1) fun x hx=>h x (by simp [hx])
    have h2:=K4 l i (h l (by simp))
    simp only [Ac,List.length_append,List.length_cons]
    omega
theorem Ej (lines:List ByteArray) (hs:∀ s∈lines,s.size≤200) (hl:lines.length≤1000):∀ (n i:Nat),200+(lines.length-i)<n→i≤lines.length→An n (bL (Ac 0 ((Fz lines).take i))) lines (lines.length:Int) (i:Int)=some (bL (Ac 0 (Fz lines)),())
  | 0,_,h,_=>absurd h (Nat.not_lt_zero _)
  | n+1,i,h,hi=>by
    rw [An]
    by_cases hx:i<lines.length
    · rw [show decide ((i:Int)<(lines.length:Int))=true by simp; omega,cond_true,Bb hx,Option.bind_some]
      have hsz:lines[i].data.toList.length≤200:=by rw [← Cy]; exact hs _ (List.getElem_mem hx)
      have hr:=GU (n:=n) (i:=i) (l:=lines[i].data.toList) (by omega) (by omega) (by omega)
      rw [K3] at hr
      rw [hr]
      simp only [Option.bind_some]
      rw [Iy]
      have hls:∀ l∈Fz lines,l.length≤200:=fun l hl=>by
        obtain⟨s,hs1,rfl⟩:=List.mem_map.1 hl
        rw [← Cy]; exact hs s hs1
      have hb:=Gd ((Fz lines).take i) 0 fun l hl=>hls l (List.mem_of_mem_take hl)
      have hti:((Fz lines).take i).length=i:=by rw [List.length_take,CI]; omega
      rw [Ad (by rw [Bd,Bd,Aq]; rw [hti] at hb; omega),Option.bind_some,wN i (by omega)]
      have hst:bL (Ac 0 ((Fz lines).take i))++bL (EX lines[i].data.toList i)=bL (Ac 0 ((Fz lines).take (i+1))):=by
        rw [← K2]
        congr 1
        rw [List.take_succ_eq_append_getElem (by rw [CI]; exact hx),DA,hti]
        simp [Ac,Fz]
      rw [hst]
      exact Ej lines hs hl n (i+1) (by omega) (by omega)
    · have:i=lines.length:=by omega
      subst this
      rw [show decide ((lines.length:Int)<(lines.length:Int))=false by simp,cond_false,List.take_of_length_le (by rw [CI]; omega)]
theorem Ge {n:Nat} {lines:List ByteArray} (hs:∀ s∈lines,s.size≤200) (hl:lines.length≤1000) (hn:200+lines.length<n):AB n lines=some (bL (Ac 0 (Fz lines)),()):=by
  unfold AB
  have h:=Ej lines hs hl n 0 (by omega) (by omega)
  rw [show((0:Nat):Int)=0 from rfl] at h
  simp only [List.take_zero,Ac] at h
  rw [show([]:List (IK .u8))=bL [] from rfl,h]
  rfl
def BE (lines:List ByteArray):Bool:=decide (lines.length≤50) && lines.all fun s=>decide (s.size≤200)
theorem BF {lines:List ByteArray}:BE lines=true↔lines.length≤50∧∀ s∈lines,s.size≤200:=by simp [BE]
theorem Gf {n:Nat} {lines:List ByteArray} (hn:lines.length<n) (hbig:lines.length≤4000000000000000000):Ay n lines=some (bif BE lines then 0 else 3,()):=by
  unfold Ay BE
  by_cases h50:lines.length≤50
  · rw [show decide ((lines.length:Int)>50)=false by simp; omega,cond_false,decide_eq_true h50,Bool.true_and]
    have key:=GS (F:=fun n (_:Unit) i=>A5 n lines (lines.length:Int) i) (l:=lines) (N:=0) (T:=fun s i a=>bif decide ((a.size:Int)>200) then .inr (.inr (3,())) else .inl s) (E:=fun _=>.inl ())
      (B:=fun n _ i v0=>bif decide ((↑v0.size:Int)>200) then(some (.inr (3,()))) else A5 n lines (lines.length:Int) (IntKind.i64.wrap (i+1))) (fun _ _=>True)
      (fun _ _ _=>rfl) (fun n s i hi _ _=>by
        cases decide ((lines[i].size:Int)>200)
        · exact⟨rfl,trivial⟩
        · rfl) hbig lines.length () 0 n (by simp) (by omega) trivial
    rw [show((0:Nat):Int)=0 from rfl,List.drop_zero] at key
    rw [key,Option.bind_some]
    have H:∀ (l:List ByteArray)(i:Nat),Jo (fun(s:Unit)(i:Nat)(a:ByteArray)=>bif decide ((a.size:Int)>200) then .inr (.inr (3,())) else .inl s) (fun _=>(.inl ():Unit ⊕ (Int×Unit))) i () l=bif l.all (fun s=>decide (s.size≤200)) then .inl () else .inr (3,()):=by
      intro l
      induction l with
      | nil=>intro i; rfl
      | cons a l ih =>
        intro i
        unfold Jo
        by_cases ha:a.size≤200
        · rw [show decide ((a.size:Int)>200)=false by simp; omega,List.all_cons,decide_eq_true ha]
          exact ih (i+1)
        · rw [show decide ((a.size:Int)>200)=true by simp; omega,List.all_cons,decide_eq_false ha]
          rfl
    rw [H]
    cases lines.all (fun s=>decide (s.size≤200)) <;> rfl
  · rw [show decide ((lines.length:Int)>50)=true by simp; omega,decide_eq_false h50]
    rfl
theorem Jx {n:Nat} {lines:List ByteArray} (hn:200+lines.length<n) (hbig:lines.length≤4000000000000000000):Bm n lines=some (bif BE lines then(bL (Ac 0 (Fz lines)),(0,())) else([],(3,()))):=by
  unfold Bm
  rw [Gf (by omega) hbig,Option.bind_some]
  cases hr:BE lines with
  | false=>rfl
  | true =>
    obtain⟨h1,h2⟩:=BF.1 hr
    simp only [cond_true]
    rw [show((0:Int) != 0)=false from rfl,cond_false,Ge h2 (by omega) hn]
    rfl
end Go.Proofs.YtkpgggfibljflaaGreatDoor
namespace Go.Proofs.YtkpgggfibljflaaGreatDoor
open Go Go.RowKit Go.Proofs
def Kb (c:UInt8):Bool:=decide (48≤c.toNat) && decide (c.toNat≤57)
def G8:Nat→List UInt8→Option Nat
  | a,[]=>some a
  | a,c::l=>bif Kb c then G8 (10*a+(c.toNat-48)) l else none
theorem KG {x:Int} (h0:0≤x) (h1:x≤255):IntKind.u8.wrap x=x:=by
  simp [IntKind.wrap,IntKind.bits,IntKind.signed]; omega
theorem H1 (full:List UInt8) (hf:full.length≤3):∀ (n i a:Nat),full.length-i<n→i≤full.length→a<10 ^ i→Aw n (a:Int) (bL full) ((bL full).length:Int) (i:Int)=some (match G8 a (full.drop i) with | some v=>.inl ((v:Int),()) | none=>.inr (-1,()))
  | 0,_,_,h,_,_=>absurd h (Nat.not_lt_zero _)
  | n+1,i,a,h,hi,ha=>by
    rw [Aw]
    by_cases hx:i<full.length
    · have hd:full.drop i=full[i]::full.drop (i+1):=List.drop_eq_getElem_cons hx
      have hb:(bL full)[i]'(by rw [Bd]; exact hx)=⟨(full[i].toNat:Int)⟩:=by simp [bL]
      rw [show decide ((i:Int)<((bL full).length:Int))=true by rw [Bd]; simp; omega,cond_true,Bb (by rw [Bd]; exact hx),Option.bind_some,hb,hd]
      simp only [G8,Kb]
      have h3:10 ^ i≤10 ^ 3:=Nat.pow_le_pow_right (by decide) (by omega)
      by_cases h48:full[i].toNat<48
      · rw [show decide (((full[i].toNat:Nat):Int)<48)=true by simp; omega,show decide (48≤full[i].toNat)=false by simp; omega]
        rfl
      · rw [show decide (((full[i].toNat:Nat):Int)<48)=false by simp; omega,show decide (48≤full[i].toNat)=true by simp; omega]
        by_cases h57:full[i].toNat≤57
        · rw [show decide (((full[i].toNat:Nat):Int)>57)=false by simp; omega,decide_eq_true h57]
          simp only [Bool.not_false,cond_true,cond_false,Bool.and_self]
          have e1:IntKind.i64.wrap (IntKind.i64.wrap (10*(a:Int))+IntKind.i64.wrap (IntKind.u8.wrap (((full[i].toNat:Nat):Int)-48)))=((10*a+(full[i].toNat-48):Nat):Int):=by
            rw [KG (by omega) (by omega),BU (x:=10*(a:Int)) (by omega) (by omega),BU (x:=((full[i].toNat:Nat):Int)-48) (by omega) (by omega),BU (by omega) (by omega)]
            omega
          rw [e1,wN i (by omega)]
          exact H1 full hf n (i+1) _ (by omega) (by omega) (by rw [Nat.pow_succ]; omega)
        · rw [show decide (((full[i].toNat:Nat):Int)>57)=true by simp; omega,decide_eq_false h57]
          rfl
    · have hd:full.drop i=[]:=by simp; omega
      rw [show decide ((i:Int)<((bL full).length:Int))=false by rw [Bd]; simp; omega,hd]
      rfl
theorem IG {n:Nat} {t:List UInt8} (ht:t.length=3) (hn:3<n):BA n (bL t)=some (match G8 0 t with | some v=>((v:Int),()) | none=>(-1,())):=by
  unfold BA
  have h:=H1 t (by omega) n 0 0 (by omega) (by omega) (by decide)
  rw [show((0:Nat):Int)=0 from rfl,List.drop_zero] at h
  rw [h,Option.bind_some]
  cases G8 0 t <;> rfl
theorem KX {x:Nat} (h:x<256):(UInt8.ofNat x).toNat=x:=by simp [UInt8.toNat_ofNat',Nat.mod_eq_of_lt h]
theorem KZ (m:Nat):dg 3 m=[UInt8.ofNat (48+m / 10 / 10 % 10),UInt8.ofNat (48+m / 10 % 10),UInt8.ofNat (48+m % 10)]:=rfl
theorem HU {x:Nat} (h:x<10):Kb (UInt8.ofNat (48+x))=true:=by
  unfold Kb
  rw [KX (by omega)]
  simp; omega
theorem Kc {m:Nat} (h:m<1000):G8 0 (dg 3 m)=some m:=by
  rw [KZ]
  simp only [G8,HU (show m / 10 / 10 % 10<10 by omega),HU (show m / 10 % 10<10 by omega),HU (show m % 10<10 by omega),cond_true]
  rw [KX (by omega),KX (by omega),KX (by omega)]
  congr 1
  omega
theorem Hl {c:UInt8}:Kb c=true↔48≤c.toNat∧c.toNat≤57:=by simp [Kb]
theorem Kd {t:List UInt8} {v:Nat} (ht:t.length=3) (h:G8 0 t=some v):v<1000∧t=dg 3 v:=by
  match t,ht with
  | [a,b,c],_ =>
    simp only [G8] at h
    cases ha:Kb a with
    | false=>rw [ha] at h; cases h
    | true =>
    cases hb:Kb b with
    | false=>rw [ha,hb] at h; cases h
    | true =>
    cases hc:Kb c with
    | false=>rw [ha,hb,hc] at h; cases h
    | true =>
    rw [ha,hb,hc] at h
    simp only [cond_true,Option.some.injEq] at h
    obtain⟨a1,a2⟩:=Hl.1 ha
    obtain⟨b1,b2⟩:=Hl.1 hb
    obtain⟨c1,c2⟩:=Hl.1 hc
    subst h
    refine⟨by omega,?_⟩
    rw [KZ]
    have e:∀ (x:UInt8)(y:Nat),x.toNat=y→x=UInt8.ofNat y:=fun x y h=>by subst h; simp
    rw [← e a _ (by omega),← e b _ (by omega),← e c _ (by omega)]
def I1:List (List UInt8)→Nat
  | []=>0
  | l::r=>16+l.length+I1 r
theorem EZ {α:Type} {l:List α} {a b:Nat} (h:a≤b) (h2:b≤l.length):lstSub l (a:Int) (b:Int)=some ((l.drop a).take (b-a)):=by
  unfold lstSub
  rw [if_pos ⟨by omega,by omega,by omega⟩]
  simp
def G9 {A B C:Type}:((((List ByteArray×Unit)×((Int×Unit)×Unit))×A) ⊕ ((((List ByteArray×Unit)×((Int×Unit)×Unit))×B) ⊕ (((List ByteArray×Unit)×((Int×Unit)×Unit))×C)))→Option (List ByteArray×Int×Unit)
  | .inl v1=>some (v1.fst.fst.fst,(v1.fst.snd.fst.fst,()))
  | .inr (.inl v2)=>some (v2.fst.fst.fst,(v2.fst.snd.fst.fst,()))
  | .inr (.inr v2)=>some (v2.fst.fst.fst,(v2.fst.snd.fst.fst,()))
theorem K5 {k i:Nat} {b:List UInt8} (h:∀ l,¬ Eh i b l):Rd k i b []:=by
  cases k with
  | zero=>exact .full _ _
  | succ k=>exact .stop h
theorem Gg (n:Nat) (x lo hi:Int):fgarage_within n x lo hi=some (Bj x lo hi,()):=by
  unfold fgarage_within Bj
  cases decide (lo≤x) <;> rfl
theorem Jy {i:Nat} {c l:List UInt8} (h:Eh i c l):(c.drop 1).take 3=dg 3 l.length:=by
  have:=(Jr h.2 (by rw [Aq]; omega)).1
  rw [this,Jp]
theorem K6 {i:Nat} {c l:List UInt8} (h:Eh i c l):(c.drop 15).take l.length=l:=by
  obtain⟨h1,t,ht⟩:=h
  rw [← ht,List.drop_append_of_le_length (by rw [Aq]; omega),Jq,List.append_assoc,List.take_append_of_le_length (Nat.le_refl _),List.take_length]
theorem I2 (b:List UInt8) (hb:b.length≤1000000) (k idx at_:Nat) (ys:List ByteArray) (n:Nat) (hy:ys.length=idx) (hk:idx+k=50) (ha:at_≤b.length) (hn:300+k<n) (h0:0<k→idx<50) :
    ((0<k→∀ l,¬ Eh idx (b.drop at_) l)∧(Aa n ys (at_:Int) (bL b) (at_:Int) (idx:Int)).bind G9=some (ys++List.map mkB [],(((at_+I1 []:Nat):Int),()))) ∨
    (∃ l,Eh idx (b.drop at_) l∧0<k∧∃ n',300+k≤n'∧(Aa n ys (at_:Int) (bL b) (at_:Int) (idx:Int)).bind G9=(Aa n' (ys++[mkB l]) ((at_+16+l.length:Nat):Int) (bL b) ((at_+16+l.length:Nat):Int) ((idx+1:Nat):Int)).bind G9):=by
  obtain⟨n,rfl⟩:∃ m,n=m+1:=⟨n-1,by omega⟩
  have hc:(b.drop at_).length=b.length-at_:=List.length_drop ..
  rw [Aa]
  have hsub:∀ x y:Nat,x≤y→at_+y≤b.length→lstSub (bL b) ((at_+x:Nat):Int) ((at_+y:Nat):Int)=some (bL (((b.drop at_).drop x).take (y-x))):=fun x y hxy hyb=>by
    rw [EZ (by omega) (by rw [Bd]; omega),JY,Ix,List.drop_drop,show at_+y-(at_+x)=y-x by omega]
  have e0:IntKind.i64.wrap (((bL b).length:Int)-(at_:Int))=(((b.drop at_).length:Nat):Int):=by rw [Bd,BU (by omega) (by omega)]; omega
  have e1:IntKind.i64.wrap ((at_:Int)+1)=((at_+1:Nat):Int):=wN _ (by omega)
  have e2:IntKind.i64.wrap (((at_+1:Nat):Int)+3)=((at_+4:Nat):Int):=by rw [BU (by omega) (by omega)]; omega
  have e3:IntKind.i64.wrap ((at_:Int)+15)=((at_+15:Nat):Int):=by rw [BU (by omega) (by omega)]; omega
  have e4:IntKind.i64.wrap ((at_:Int)+16)=((at_+16:Nat):Int):=by rw [BU (by omega) (by omega)]; omega
  have e5:IntKind.i64.wrap ((idx:Int)+1)=((idx+1:Nat):Int):=wN _ (by omega)
  rw [e0,e1,e2,e3,e4,e5]
  by_cases h16:16≤(b.drop at_).length
  · rw [show decide ((((b.drop at_).length:Nat):Int)≥16)=true by simp; omega,cond_true,hsub 1 4 (by omega) (by omega),Option.bind_some,show 4-1=3 from rfl]
    have ht3:(((b.drop at_).drop 1).take 3).length=3:=by rw [List.length_take,List.length_drop]; omega
    rw [IG ht3 (by omega),Option.bind_some]
    cases hv:G8 0 (((b.drop at_).drop 1).take 3) with
    | none =>
      left
      refine⟨fun _ l hf=>?_,?_⟩
      · rw [Jy hf,Kc (by have:=hf.1; omega)] at hv; cases hv
      · simp only [Gg,Option.bind_some]
        rw [show Bj (-1) 0 200=false by decide]
        simp [G9,I1]
    | some m =>
      obtain⟨hm,hdg⟩:=Kd ht3 hv
      have hfm:∀ l,Eh idx (b.drop at_) l→l.length=m:=fun l hf=>by
        have:=Jy hf
        rw [hdg] at this
        exact(HS 3 (by omega) (by have:=hf.1; omega) this).symm
      simp only [Gg,Option.bind_some]
      by_cases h200:m≤200
      · have hb1:Bj (m:Int) 0 200=true:=Cm.2 (by omega)
        rw [hb1]
        simp only [Bool.not_true,Bool.not_false,cond_true]
        have e6:IntKind.i64.wrap (16+(m:Int))=((16+m:Nat):Int):=by rw [BU (by omega) (by omega)]; omega
        rw [e6]
        by_cases hlen:16+m≤(b.drop at_).length
        · have e7:IntKind.i64.wrap (((at_+16:Nat):Int)+(m:Int))=((at_+(16+m):Nat):Int):=by rw [BU (by omega) (by omega)]; omega
          have e8:IntKind.i64.wrap (((at_+(16+m):Nat):Int)-1)=((at_+(15+m):Nat):Int):=by rw [BU (by omega) (by omega)]; omega
          rw [e7,e8,show decide ((((b.drop at_).length:Nat):Int)<((16+m:Nat):Int))=false by simp; omega,cond_false,hsub 15 (15+m) (by omega) (by omega),Option.bind_some,show 15+m-15=m by omega,FX]
          have hlm:(((b.drop at_).drop 15).take m).length=m:=by rw [List.length_take,List.length_drop]; omega
          generalize hl:((b.drop at_).drop 15).take m=l at *
          rw [GU (by omega) (by omega) (by omega),Option.bind_some]
          have h0m:=hsub 0 (16+m) (by omega) (by omega)
          rw [Nat.add_zero,List.drop_zero,Nat.sub_zero] at h0m
          rw [h0m,Option.bind_some,FX,HT]
          by_cases heq:EX l idx=(b.drop at_).take (16+m)
          · have hfit:Eh idx (b.drop at_) l:=⟨by omega,by rw [heq]; exact List.take_prefix _ _⟩
            rw [decide_eq_true heq]
            simp only [Bool.not_true,Bool.not_false,cond_true]
            by_cases h50:idx=50
            · rw [show decide ((ys.length:Int)=50)=true by simp; omega,cond_true]
              left
              refine⟨fun hk0=>by have:=h0 hk0; omega,by simp [G9,I1]⟩
            · rw [show decide ((ys.length:Int)=50)=false by simp; omega,cond_false,Ad (by simp; omega),Option.bind_some]
              right
              refine⟨l,hfit,by omega,n,by omega,?_⟩
              rw [hlm,show at_+(16+m)=at_+16+m by omega]
          · rw [decide_eq_false heq]
            simp only [Bool.not_false,Bool.not_true,cond_false]
            left
            refine⟨fun _ l' hf=>heq ?_,by simp [G9,I1]⟩
            have h1:=hfm l' hf
            have h2:=K6 hf
            rw [h1,hl] at h2
            rw [h2]
            obtain⟨_,tl,htl⟩:=hf
            rw [← htl,List.take_append_of_le_length (by rw [Aq]; omega),List.take_of_length_le (by rw [Aq]; omega)]
        · rw [show decide ((((b.drop at_).length:Nat):Int)<((16+m:Nat):Int))=true by simp; omega,cond_true]
          left
          refine⟨fun _ l hf=>hlen ?_,by simp [G9,I1]⟩
          have h1:=hf.2.length_le
          rw [Aq,hfm l hf] at h1
          exact h1
      · have hb1:Bj (m:Int) 0 200=false:=GT.2 (by omega)
        rw [hb1]
        simp only [Bool.not_false,Bool.not_true,cond_false]
        left
        refine⟨fun _ l hf=>h200 ?_,by simp [G9,I1]⟩
        have:=hf.1
        rw [hfm l hf] at this; exact this
  · rw [show decide ((((b.drop at_).length:Nat):Int)≥16)=false by simp; omega,cond_false]
    left
    refine⟨fun _ l hf=>h16 ?_,by simp [G9,I1]⟩
    have h1:=hf.2.length_le
    rw [Aq] at h1
    omega
theorem K7 (b:List UInt8) (hb:b.length≤1000000):∀ (k idx at_:Nat)(ys:List ByteArray)(n:Nat),ys.length=idx→idx+k=50→at_≤b.length→300+k<n→∃ r,Rd k idx (b.drop at_) r∧(Aa n ys (at_:Int) (bL b) (at_:Int) (idx:Int)).bind G9=some (ys++r.map mkB,(((at_+I1 r:Nat):Int),())):=by
  intro k
  induction k with
  | zero =>
    intro idx at_ ys n hy hk ha hn
    exact⟨[],.full _ _,I2 b hb 0 idx at_ ys n hy hk ha hn (fun h=>absurd h (Nat.lt_irrefl 0)) |>.elim (fun h=>h.2) (fun h=>by obtain⟨l,_,h0,_⟩:=h; omega)⟩
  | succ k ih =>
    intro idx at_ ys n hy hk ha hn
    rcases I2 b hb (k+1) idx at_ ys n hy hk ha hn (fun _=>by omega) with⟨h1,h2⟩ | ⟨l,hf,_,n',hn',h2⟩
    · exact⟨[],K5 (h1 (by omega)),h2⟩
    · have hl:=hf.1
      have hle:=hf.2.length_le
      rw [Aq,List.length_drop] at hle
      obtain⟨r,q1,q2⟩:=ih (idx+1) (at_+16+l.length) (ys++[mkB l]) n' (by simp [hy]) (by omega) (by omega) (by omega)
      refine⟨l::r,.more hf ?_,?_⟩
      · rw [List.drop_drop,show at_+(16+l.length)=at_+16+l.length by omega]; exact q1
      · rw [h2,q2]
        simp only [List.map_cons,I1,List.append_assoc,List.singleton_append]
        rw [show at_+16+l.length+I1 r=at_+(16+l.length+I1 r) by omega]
theorem HV {n:Nat} {b:List UInt8} (hb:b.length≤1000000) (hn:350<n):∃ r,Rd 50 0 b r∧Ap n (bL b)=some (r.map mkB,(((I1 r:Nat):Int),())):=by
  obtain⟨r,h1,h2⟩:=K7 b hb 50 0 0 [] n rfl rfl (by omega) (by omega)
  rw [List.drop_zero] at h1
  refine⟨r,h1,?_⟩
  rw [show((0:Nat):Int)=0 from rfl,Nat.zero_add,List.nil_append] at h2
  rw [← h2]
  unfold Ap
  congr 1
  funext v0
  rcases v0 with v1 | v1 | v1 <;> rfl
theorem Gh {n:Nat} {b:List UInt8} {r:List (List UInt8)} (hb:b.length≤1000000) (hn:350<n) (hr:Rd 50 0 b r):Ap n (bL b)=some (r.map mkB,(((I1 r:Nat):Int),())):=by
  obtain⟨r',h1,h2⟩:=HV (n:=n) hb hn
  rw [hr.one h1]; exact h2
end Go.Proofs.YtkpgggfibljflaaGreatDoor
namespace Go.Proofs.YtkpgggfibljflaaGreatDoor
open Go Go.RowKit Go.Proofs
theorem Jz {n:Nat} {lines:List ByteArray} (m:Nat) (hb:lines.length≤4000000000000000000) (hn:lines.length<n) (F:Nat→Int→Option ((List ByteArray×Unit) ⊕ (Bool×Unit)))
    (hF:∀ n i,F (n+1) i=bif decide (i<(lines.length:Int)) then(idx lines i).bind (fun v0=>bif decide ((↑v0.size:Int)>(m:Int)) then(some (.inr (false,()))) else F n (IntKind.i64.wrap (i+1))) else some (.inl (lines,()))) :
    F n 0=some (bif lines.all (fun s=>decide (s.size≤m)) then .inl (lines,()) else .inr (false,())):=by
  have key:=GS (F:=fun n (_:Unit) i=>F n i) (l:=lines) (N:=0) (T:=fun s i a=>bif decide ((a.size:Int)>(m:Int)) then .inr (.inr (false,())) else .inl s) (E:=fun _=>.inl (lines,()))
    (B:=fun n _ i v0=>bif decide ((↑v0.size:Int)>(m:Int)) then(some (.inr (false,()))) else F n (IntKind.i64.wrap (i+1))) (fun _ _=>True)
    (fun n _ i=>hF n i) (fun n s i hi _ _=>by
      cases decide ((lines[i].size:Int)>(m:Int))
      · exact⟨rfl,trivial⟩
      · rfl) hb lines.length () 0 n (by simp) (by omega) trivial
  rw [show((0:Nat):Int)=0 from rfl,List.drop_zero] at key
  rw [key]
  congr 1
  have H:∀ (l:List ByteArray)(i:Nat),Jo (fun(s:Unit)(i:Nat)(a:ByteArray)=>bif decide ((a.size:Int)>(m:Int)) then .inr (.inr (false,())) else .inl s) (fun _=>(.inl (lines,()):(List ByteArray×Unit) ⊕ (Bool×Unit))) i () l=bif l.all (fun s=>decide (s.size≤m)) then .inl (lines,()) else .inr (false,()):=by
    intro l
    induction l with
    | nil=>intro i; rfl
    | cons a l ih =>
      intro i
      unfold Jo
      by_cases ha:a.size≤m
      · rw [show decide ((a.size:Int)>(m:Int))=false by simp; omega,List.all_cons,decide_eq_true ha]
        exact ih (i+1)
      · rw [show decide ((a.size:Int)>(m:Int))=true by simp; omega,List.all_cons,decide_eq_false ha]
        rfl
  exact H lines 0
theorem J0 {n:Nat} {lines:List ByteArray} (hb:lines.length≤4000000000000000000) (hn:lines.length<n):CU n lines=some (BE lines,()):=by
  unfold CU
  rw [Jz 200 hb hn (fun n i=>BQ n lines i) (fun n i=>rfl),Option.bind_some]
  unfold BE
  cases lines.all (fun s=>decide (s.size≤200)) with
  | false=>simp
  | true =>
    show some (decide ((lines.length:Int)≤50),())=_
    by_cases h1:lines.length≤50
    · rw [show decide ((lines.length:Int)≤50)=true by simp; omega,decide_eq_true h1]; rfl
    · rw [show decide ((lines.length:Int)≤50)=false by simp; omega,decide_eq_false h1]; rfl
theorem Hm {n:Nat} {l:List ByteArray} (h:l.length≤1000000000):BI n l=some (l,()):=by
  unfold BI
  rw [Ad (a:=[]) (by simpa using h)]; rfl
theorem Ke {n:Nat} (h:60≤n):BN n=some (true,()):=by
  obtain⟨k,rfl⟩:∃ k,n=k+60:=⟨n-60,by omega⟩
  exact JW k
theorem Gi (lines:List ByteArray) (k:Nat):(Fz lines).take k=Fz (lines.take k):=by simp [Fz,List.map_take]
theorem HW (lines:List ByteArray):(Fz lines).map mkB=lines:=by
  unfold Fz
  rw [List.map_map]
  have:(mkB ∘ fun s:ByteArray=>s.data.toList)=id:=by funext x; exact mkB_data x
  rw [this,List.map_id]
theorem K8 {lines:List ByteArray} {m:Nat} (h:∀ s∈lines,s.size≤m):∀ l∈Fz lines,l.length≤m:=fun l hl=>by
  obtain⟨s,hs1,rfl⟩:=List.mem_map.1 hl
  rw [← Cy]; exact h s hs1
def GV (lines:List ByteArray) (k:Nat):List UInt8:=Ac 0 (Fz (lines.take k))
theorem Kf {α:Type} {l:List α} {k:Nat} (h:k≤l.length):lstSub l 0 (k:Int)=some (l.take k):=by
  have:=EZ (l:=l) (a:=0) (b:=k) (by omega) h
  simpa using this
end Go.Proofs.YtkpgggfibljflaaGreatDoor
