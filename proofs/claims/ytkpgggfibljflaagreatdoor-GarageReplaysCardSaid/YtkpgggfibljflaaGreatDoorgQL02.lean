/- The plain law. -/
import Derived.Test.YtkpgggfibljflaaGreatDoorgQL01
set_option linter.all false
set_option maxRecDepth 100000
namespace Go.Proofs.YtkpgggfibljflaaGreatDoor
open Go Go.RowKit Go.Proofs
def bL (l:List UInt8):List (IK .u8):=l.map fun b=>⟨(b.toNat:Int)⟩
theorem MW (l:List UInt8):(bL l).length=l.length:=by simp [bL]
theorem AdL (a b:List UInt8):bL (a++b)=bL a++bL b:=by simp [bL]
theorem Acq (s:ByteArray):FY s=bL s.data.toList:=by
 unfold FY O1 bL
 rw [List.map_map]; rfl
theorem Acr (l:List UInt8):FY (Ku l)=bL l:=by
 rw [Acq]; rfl
theorem Acs (l:List UInt8):QO (bL l)=Ku l:=by
 unfold QO bL Ku
 rw [List.map_map]
 congr 2
 conv=>rhs; rw [← List.map_id l]
 apply List.map_congr_left
 intro b _
 show UInt8.ofNat ((b.toNat:Int).toNat)=b
 simp
theorem Acu (a b:List UInt8):Ku a++Ku b=Ku (a++b):=by
 have h:∀ s t:ByteArray,s.data.toList=t.data.toList→s=t:=fun s t h=>by
  rw [← E8 s,← E8 t,h]
 apply h
 simp [Ku]
theorem OR (l:List UInt8):(Ku l).size=l.length:=by simp [Ku,ByteArray.size]
theorem Uj (s:ByteArray):s.size=s.data.toList.length:=by rw [ZaG]; rfl
theorem Y6 {a b:List UInt8} (h:a.length+b.length≤1000000000):Bf (Ku a) (Ku b)=some (Ku (a++b)):=by
 unfold Bf
 rw [OR,OR,if_pos h,Acu]
theorem Aaf (a b:List UInt8):(Ku a).beq (Ku b)=decide (a=b):=by
 show(a.toArray == b.toArray)=_
 by_cases h:a=b <;> simp [h]
def Ge (lines:List ByteArray):Bool:=decide (lines.length≤50) && lines.all fun s=>decide (s.size≤200)
theorem FA {lines:List ByteArray}:Ge lines=true↔lines.length≤50∧∀ s∈lines,s.size≤200:=by simp [Ge]
theorem OS {n:Nat} {lines:List ByteArray} (hn:lines.length<n) (hbig:lines.length≤4000000000000000000):CL n lines=some (bif Ge lines then 0 else 3,()):=by
 unfold CL Ge
 by_cases h50:lines.length≤50
 · rw [show decide ((lines.length:Int)>50)=false by simp; omega,Zad,Zak h50,ZaS]
   have key:=R9 (F:=fun n (_:Unit) i=>Dk n lines (lines.length:Int) i) (l:=lines) (N:=0) (T:=fun s i a=>bif decide ((a.size:Int)>200) then .inr (.inr (3,())) else .inl s) (E:=fun _=>.inl ())
    (B:=fun n _ i v0=>bif decide ((↑v0.size:Int)>200) then(some (.inr (3,()))) else Dk n lines (lines.length:Int) (IntKind.i64.wrap (i+1))) (fun _ _=>True)
    (fun _ _ _=>rfl) (fun n s i hi _ _=>by
     cases decide ((lines[i].size:Int)>200)
     · exact⟨rfl,trivial⟩
     · rfl) hbig lines.length () 0 n (by simp) (by omega) trivial
   rw [show((0:Nat):Int)=0 from rfl,Zay] at key
   rw [key,Zaa]
   have H:∀ (l:List ByteArray)(i:Nat),ZO (fun(s:Unit)(i:Nat)(a:ByteArray)=>bif decide ((a.size:Int)>200) then .inr (.inr (3,())) else .inl s) (fun _=>(.inl ():Unit ⊕ (Int×Unit))) i () l=bif l.all (fun s=>decide (s.size≤200)) then .inl () else .inr (3,()):=by
    intro l
    induction l with
    | nil=>intro i; rfl
    | cons a l ih =>
     intro i
     unfold ZO
     by_cases ha:a.size≤200
     · rw [show decide ((a.size:Int)>200)=false by simp; omega,ZaT,Zak ha]
       exact ih (i+1)
     · rw [show decide ((a.size:Int)>200)=true by simp; omega,ZaT,Zah ha]
       rfl
   rw [H]
   cases lines.all (fun s=>decide (s.size≤200)) <;> rfl
 · rw [show decide ((lines.length:Int)>50)=true by simp; omega,Zah h50]
   rfl
def Afh (c:UInt8):Bool:=decide (48≤c.toNat) && decide (c.toNat≤57)
def Aag:Nat→List UInt8→Option Nat
 | a,[]=>some a
 | a,c::l=>bif Afh c then Aag (10*a+(c.toNat-48)) l else none
theorem Ae0 {x:Int} (h0:0≤x) (h1:x≤255):IntKind.u8.wrap x=x:=by
 simp [IntKind.wrap,IntKind.bits,IntKind.signed]; omega
theorem Uk (full:List UInt8) (hf:full.length≤3):∀ (n i a:Nat),full.length-i<n→i≤full.length→a<10 ^ i→DN n (a:Int) (bL full) ((bL full).length:Int) (i:Int)=some (match Aag a (full.drop i) with | some v=>.inl ((v:Int),()) | none=>.inr (-1,()))
 | 0,_,_,h,_,_=>absurd h (Zav _)
 | n+1,i,a,h,hi,ha=>by
  rw [DN]
  by_cases hx:i<full.length
  · have hd:full.drop i=full[i]::full.drop (i+1):=Zaj hx
    have hb:(bL full)[i]'(by rw [MW]; exact hx)=⟨(full[i].toNat:Int)⟩:=by simp [bL]
    rw [show decide ((i:Int)<((bL full).length:Int))=true by rw [MW]; simp; omega,Zac,Cb (by rw [MW]; exact hx),Zaa,hb,hd]
    simp only [Aag,Afh]
    have h3:10 ^ i≤10 ^ 3:=Nat.pow_le_pow_right (by decide) (by omega)
    by_cases h48:full[i].toNat<48
    · rw [show decide (((full[i].toNat:Nat):Int)<48)=true by simp; omega,show decide (48≤full[i].toNat)=false by simp; omega]
      rfl
    · rw [show decide (((full[i].toNat:Nat):Int)<48)=false by simp; omega,show decide (48≤full[i].toNat)=true by simp; omega]
      by_cases h57:full[i].toNat≤57
      · rw [show decide (((full[i].toNat:Nat):Int)>57)=false by simp; omega,Zak h57]
        simp only [ZaI,Zac,Zad,Bool.and_self]
        have e1:IntKind.i64.wrap (IntKind.i64.wrap (10*(a:Int))+IntKind.i64.wrap (IntKind.u8.wrap (((full[i].toNat:Nat):Int)-48)))=((10*a+(full[i].toNat-48):Nat):Int):=by
         rw [Ae0 (by omega) (by omega),LP (x:=10*(a:Int)) (by omega) (by omega),LP (x:=((full[i].toNat:Nat):Int)-48) (by omega) (by omega),LP (by omega) (by omega)]
         omega
        rw [e1,wN i (by omega)]
        exact Uk full hf n (i+1) _ (by omega) (by omega) (by rw [Nat.pow_succ]; omega)
      · rw [show decide (((full[i].toNat:Nat):Int)>57)=true by simp; omega,Zah h57]
        rfl
  · have hd:full.drop i=[]:=by simp; omega
    rw [show decide ((i:Int)<((bL full).length:Int))=false by rw [MW]; simp; omega,hd]
    rfl
theorem length_eq {n:Nat} {t:List UInt8} (ht:t.length=3) (hn:3<n):JZ n (bL t)=some (match Aag 0 t with | some v=>((v:Int),()) | none=>(-1,())):=by
 unfold JZ
 have h:=Uk t (by omega) n 0 0 (by omega) (by omega) (by decide)
 rw [show((0:Nat):Int)=0 from rfl,Zay] at h
 rw [h,Zaa]
 cases Aag 0 t <;> rfl
theorem OT (a b:List ByteArray) (hl:a.length=b.length) (hb:a.length≤4000000000000000000):∀ (n i:Nat),a.length-i<n→i≤a.length→E9 n a b (i:Int)=some (bif decide (a.drop i=b.drop i) then .inl () else .inr (false,()))
 | 0,_,h,_=>absurd h (Zav _)
 | n+1,i,h,hi=>by
  rw [E9]
  by_cases hx:i<a.length
  · have hd:a.drop i=a[i]::a.drop (i+1):=Zaj hx
    have hx2:i<b.length:=by omega
    have hd2:b.drop i=b[i]::b.drop (i+1):=Zaj hx2
    rw [show decide ((i:Int)<(a.length:Int))=true by simp; omega,Zac,Cb hx,Zaa,Cb hx2,Zaa,hd,hd2,wN i (by omega)]
    have hbq:a[i].beq b[i]=decide (a[i]=b[i]):=by
     have:=Aaf a[i].data.toList b[i].data.toList
     rw [E8,E8] at this
     rw [this]
     by_cases he:a[i]=b[i]
     · rw [he]; simp
     · rw [Zah he,Zah]
       intro h2
       apply he
       rw [← E8 a[i],← E8 b[i],h2]
    rw [hbq]
    by_cases he:a[i]=b[i]
    · rw [Zak he]
      simp only [ZaM,Zad]
      rw [OT a b hl hb n (i+1) (by omega) (by omega)]
      simp only [List.cons.injEq,he,true_and]
    · rw [Zah he]
      simp only [List.cons.injEq,he,false_and,decide_false,Zad,ZaI,Zac]
  · have h1:a.drop i=[]:=by simp; omega
    have h2:b.drop i=[]:=by simp; omega
    rw [show decide ((i:Int)<(a.length:Int))=false by simp; omega,h1,h2]
    simp
theorem Aah {n:Nat} {a b:List ByteArray} (hb:a.length≤4000000000000000000) (hn:a.length<n):IP n a b=some (decide (a=b),()):=by
 unfold IP
 by_cases hl:a.length=b.length
 · rw [show((a.length:Int) != (b.length:Int))=false by simp [hl],Zad]
   have h:=OT a b hl hb n 0 (by omega) (by omega)
   rw [show((0:Nat):Int)=0 from rfl,Zay,Zay] at h
   rw [h,Zaa]
   by_cases he:a=b <;> simp [he]
 · rw [show((a.length:Int) != (b.length:Int))=true by simp; omega,Zac]
   have:a≠b:=fun h=>hl (by rw [h])
   simp [this]
theorem Aai {n:Nat} {lines:List ByteArray} (m:Nat) (hb:lines.length≤4000000000000000000) (hn:lines.length<n) (F:Nat→Int→Option ((List ByteArray×Unit) ⊕ (Bool×Unit)))
  (hF:∀ n i,F (n+1) i=bif decide (i<(lines.length:Int)) then(A4 lines i).bind (fun v0=>bif decide ((↑v0.size:Int)>(m:Int)) then(some (.inr (false,()))) else F n (IntKind.i64.wrap (i+1))) else some (.inl (lines,()))) :
  F n 0=some (bif lines.all (fun s=>decide (s.size≤m)) then .inl (lines,()) else .inr (false,())):=by
 have key:=R9 (F:=fun n (_:Unit) i=>F n i) (l:=lines) (N:=0) (T:=fun s i a=>bif decide ((a.size:Int)>(m:Int)) then .inr (.inr (false,())) else .inl s) (E:=fun _=>.inl (lines,()))
  (B:=fun n _ i v0=>bif decide ((↑v0.size:Int)>(m:Int)) then(some (.inr (false,()))) else F n (IntKind.i64.wrap (i+1))) (fun _ _=>True)
  (fun n _ i=>hF n i) (fun n s i hi _ _=>by
   cases decide ((lines[i].size:Int)>(m:Int))
   · exact⟨rfl,trivial⟩
   · rfl) hb lines.length () 0 n (by simp) (by omega) trivial
 rw [show((0:Nat):Int)=0 from rfl,Zay] at key
 rw [key]
 congr 1
 have H:∀ (l:List ByteArray)(i:Nat),ZO (fun(s:Unit)(i:Nat)(a:ByteArray)=>bif decide ((a.size:Int)>(m:Int)) then .inr (.inr (false,())) else .inl s) (fun _=>(.inl (lines,()):(List ByteArray×Unit) ⊕ (Bool×Unit))) i () l=bif l.all (fun s=>decide (s.size≤m)) then .inl (lines,()) else .inr (false,()):=by
  intro l
  induction l with
  | nil=>intro i; rfl
  | cons a l ih =>
   intro i
   unfold ZO
   by_cases ha:a.size≤m
   · rw [show decide ((a.size:Int)>(m:Int))=false by simp; omega,ZaT,Zak ha]
     exact ih (i+1)
   · rw [show decide ((a.size:Int)>(m:Int))=true by simp; omega,ZaT,Zah ha]
     rfl
 exact H lines 0
theorem Aaj {n:Nat} {lines:List ByteArray} (hb:lines.length≤4000000000000000000) (hn:lines.length<n):IS n lines=some (Ge lines,()):=by
 unfold IS
 rw [Aai 200 hb hn (fun n i=>FR n lines i) (fun n i=>rfl),Zaa]
 unfold Ge
 cases lines.all (fun s=>decide (s.size≤200)) with
 | false=>simp
 | true =>
  show some (decide ((lines.length:Int)≤50),())=_
  by_cases h1:lines.length≤50
  · rw [show decide ((lines.length:Int)≤50)=true by simp; omega,Zak h1]; rfl
  · rw [show decide ((lines.length:Int)≤50)=false by simp; omega,Zah h1]; rfl
theorem XG {n:Nat} {l:List ByteArray} (h:l.length≤1000000000):El n l=some (l,()):=by
 unfold El
 rw [B6 (a:=[]) (by simpa using h)]; rfl
theorem Acv {n:Nat} (h:60≤n):He n=some (true,()):=by
 obtain⟨k,rfl⟩:∃ k,n=k+60:=⟨n-60,by omega⟩
 exact Aci k
theorem Rd.le:∀ {k i:Nat} {b:List UInt8} {r:List (List UInt8)},Rd k i b r→r.length≤k
 | _,_,_,_,.full _ _=>by simp
 | _,_,_,_,.stop _=>by simp
 | _,_,_,_,.more _ h=>by have:=h.le; simp; omega
end Go.Proofs.YtkpgggfibljflaaGreatDoor
