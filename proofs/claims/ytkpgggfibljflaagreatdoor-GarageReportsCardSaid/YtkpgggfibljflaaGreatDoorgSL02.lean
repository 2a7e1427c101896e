/- The plain law. -/
import Derived.Test.YtkpgggfibljflaaGreatDoorgSL01
set_option linter.all false
set_option maxRecDepth 100000
namespace Go.Proofs.YtkpgggfibljflaaGreatDoor
open Go Go.RowKit Go.Proofs
def bL (l:List UInt8):List (IK .u8):=l.map fun b=>⟨(b.toNat:Int)⟩
theorem PE (l:List UInt8):(bL l).length=l.length:=by simp [bL]
theorem Ai9 (a b:List UInt8):bL (a++b)=bL a++bL b:=by simp [bL]
theorem AgR (s:ByteArray):HE s=bL s.data.toList:=by
 unfold HE R4 bL
 rw [List.map_map]; rfl
theorem AgS (l:List UInt8):HE (Ep l)=bL l:=by
 rw [AgR]; rfl
theorem AgT (l:List UInt8):Q2 (bL l)=Ep l:=by
 unfold Q2 bL Ep
 rw [List.map_map]
 congr 2
 conv=>rhs; rw [← List.map_id l]
 apply List.map_congr_left
 intro b _
 show UInt8.ofNat ((b.toNat:Int).toNat)=b
 simp
theorem AgU (a b:List UInt8):Ep a++Ep b=Ep (a++b):=by
 have h:∀ s t:ByteArray,s.data.toList=t.data.toList→s=t:=fun s t h=>by
  rw [← Gd s,← Gd t,h]
 apply h
 simp [Ep]
theorem Fd (l:List UInt8):(Ep l).size=l.length:=by simp [Ep,ByteArray.size]
theorem Lx (s:ByteArray):s.size=s.data.toList.length:=by rw [ZaN]; rfl
theorem My {a b:List UInt8} (h:a.length+b.length≤1000000000):An (Ep a) (Ep b)=some (Ep (a++b)):=by
 unfold An
 rw [Fd,Fd,if_pos h,AgU]
theorem AiA (a b:List UInt8):(Ep a).beq (Ep b)=decide (a=b):=by
 show(a.toArray == b.toArray)=_
 by_cases h:a=b <;> simp [h]
def Jy (lines:List ByteArray):Bool:=decide (lines.length≤50) && lines.all fun s=>decide (s.size≤200)
theorem Km {lines:List ByteArray}:Jy lines=true↔lines.length≤50∧∀ s∈lines,s.size≤200:=by simp [Jy]
theorem XY {n:Nat} {lines:List ByteArray} (hn:lines.length<n) (hbig:lines.length≤4000000000000000000):DG n lines=some (bif Jy lines then 0 else 3,()):=by
 unfold DG Jy
 by_cases h50:lines.length≤50
 · rw [show decide ((lines.length:Int)>50)=false by simp; omega,Zad,Zaf h50,ZaF]
   have key:=Vk (F:=fun n (_:Unit) i=>Ef n lines (lines.length:Int) i) (l:=lines) (N:=0) (T:=fun s i a=>bif decide ((a.size:Int)>200) then .inr (.inr (3,())) else .inl s) (E:=fun _=>.inl ())
    (B:=fun n _ i v0=>bif decide ((↑v0.size:Int)>200) then(some (.inr (3,()))) else Ef n lines (lines.length:Int) (IntKind.i64.wrap (i+1))) (fun _ _=>True)
    (fun _ _ _=>rfl) (fun n s i hi _ _=>by
     cases decide ((lines[i].size:Int)>200)
     · exact⟨rfl,trivial⟩
     · rfl) hbig lines.length () 0 n (by simp) (by omega) trivial
   rw [show((0:Nat):Int)=0 from rfl,Zar] at key
   rw [key,Zaa]
   have H:∀ (l:List ByteArray)(i:Nat),Aem (fun(s:Unit)(i:Nat)(a:ByteArray)=>bif decide ((a.size:Int)>200) then .inr (.inr (3,())) else .inl s) (fun _=>(.inl ():Unit ⊕ (Int×Unit))) i () l=bif l.all (fun s=>decide (s.size≤200)) then .inl () else .inr (3,()):=by
    intro l
    induction l with
    | nil=>intro i; rfl
    | cons a l ih =>
     intro i
     unfold Aem
     by_cases ha:a.size≤200
     · rw [show decide ((a.size:Int)>200)=false by simp; omega,ZaP,Zaf ha]
       exact ih (i+1)
     · rw [show decide ((a.size:Int)>200)=true by simp; omega,ZaP,Zae ha]
       rfl
   rw [H]
   cases lines.all (fun s=>decide (s.size≤200)) <;> rfl
 · rw [show decide ((lines.length:Int)>50)=true by simp; omega,Zae h50]
   rfl
def Akh (c:UInt8):Bool:=decide (48≤c.toNat) && decide (c.toNat≤57)
def Ae3:Nat→List UInt8→Option Nat
 | a,[]=>some a
 | a,c::l=>bif Akh c then Ae3 (10*a+(c.toNat-48)) l else none
theorem Aii {x:Int} (h0:0≤x) (h1:x≤255):IntKind.u8.wrap x=x:=by
 simp [IntKind.wrap,IntKind.bits,IntKind.signed]; omega
theorem XZ (full:List UInt8) (hf:full.length≤3):∀ (n i a:Nat),full.length-i<n→i≤full.length→a<10 ^ i→Fc n (a:Int) (bL full) ((bL full).length:Int) (i:Int)=some (match Ae3 a (full.drop i) with | some v=>.inl ((v:Int),()) | none=>.inr (-1,()))
 | 0,_,_,h,_,_=>absurd h (Zal _)
 | n+1,i,a,h,hi,ha=>by
  rw [Fc]
  by_cases hx:i<full.length
  · have hd:full.drop i=full[i]::full.drop (i+1):=Zai hx
    have hb:(bL full)[i]'(by rw [PE]; exact hx)=⟨(full[i].toNat:Int)⟩:=by simp [bL]
    rw [show decide ((i:Int)<((bL full).length:Int))=true by rw [PE]; simp; omega,Zab,AO (by rw [PE]; exact hx),Zaa,hb,hd]
    simp only [Ae3,Akh]
    have h3:10 ^ i≤10 ^ 3:=Zb8 (by decide) (by omega)
    by_cases h48:full[i].toNat<48
    · rw [show decide (((full[i].toNat:Nat):Int)<48)=true by simp; omega,show decide (48≤full[i].toNat)=false by simp; omega]
      rfl
    · rw [show decide (((full[i].toNat:Nat):Int)<48)=false by simp; omega,show decide (48≤full[i].toNat)=true by simp; omega]
      by_cases h57:full[i].toNat≤57
      · rw [show decide (((full[i].toNat:Nat):Int)>57)=false by simp; omega,Zaf h57]
        simp only [Za7,Zab,Zad,Zb0]
        have e1:IntKind.i64.wrap (IntKind.i64.wrap (10*(a:Int))+IntKind.i64.wrap (IntKind.u8.wrap (((full[i].toNat:Nat):Int)-48)))=((10*a+(full[i].toNat-48):Nat):Int):=by
         rw [Aii (by omega) (by omega),BG (x:=10*(a:Int)) (by omega) (by omega),BG (x:=((full[i].toNat:Nat):Int)-48) (by omega) (by omega),BG (by omega) (by omega)]
         omega
        rw [e1,wN i (by omega)]
        exact XZ full hf n (i+1) _ (by omega) (by omega) (by rw [Zb7]; omega)
      · rw [show decide (((full[i].toNat:Nat):Int)>57)=true by simp; omega,Zae h57]
        rfl
  · have hd:full.drop i=[]:=by simp; omega
    rw [show decide ((i:Int)<((bL full).length:Int))=false by rw [PE]; simp; omega,hd]
    rfl
theorem length_eq {n:Nat} {t:List UInt8} (ht:t.length=3) (hn:3<n):Mu n (bL t)=some (match Ae3 0 t with | some v=>((v:Int),()) | none=>(-1,())):=by
 unfold Mu
 have h:=XZ t (by omega) n 0 0 (by omega) (by omega) (by decide)
 rw [show((0:Nat):Int)=0 from rfl,Zar] at h
 rw [h,Zaa]
 cases Ae3 0 t <;> rfl
theorem AcN {α:Type} {l:List α} {a b:Nat} (h:a≤b) (h2:b≤l.length):Gl l (a:Int) (b:Int)=some ((l.drop a).take (b-a)):=by
 unfold Gl
 rw [if_pos ⟨by omega,by omega,by omega⟩]
 simp
theorem Ae4 {n:Nat} {lines:List ByteArray} (m:Nat) (hb:lines.length≤4000000000000000000) (hn:lines.length<n) (F:Nat→Int→Option ((List ByteArray×Unit) ⊕ (Bool×Unit)))
  (hF:∀ n i,F (n+1) i=bif decide (i<(lines.length:Int)) then(Ao lines i).bind (fun v0=>bif decide ((↑v0.size:Int)>(m:Int)) then(some (.inr (false,()))) else F n (IntKind.i64.wrap (i+1))) else some (.inl (lines,()))) :
  F n 0=some (bif lines.all (fun s=>decide (s.size≤m)) then .inl (lines,()) else .inr (false,())):=by
 have key:=Vk (F:=fun n (_:Unit) i=>F n i) (l:=lines) (N:=0) (T:=fun s i a=>bif decide ((a.size:Int)>(m:Int)) then .inr (.inr (false,())) else .inl s) (E:=fun _=>.inl (lines,()))
  (B:=fun n _ i v0=>bif decide ((↑v0.size:Int)>(m:Int)) then(some (.inr (false,()))) else F n (IntKind.i64.wrap (i+1))) (fun _ _=>True)
  (fun n _ i=>hF n i) (fun n s i hi _ _=>by
   cases decide ((lines[i].size:Int)>(m:Int))
   · exact⟨rfl,trivial⟩
   · rfl) hb lines.length () 0 n (by simp) (by omega) trivial
 rw [show((0:Nat):Int)=0 from rfl,Zar] at key
 rw [key]
 congr 1
 have H:∀ (l:List ByteArray)(i:Nat),Aem (fun(s:Unit)(i:Nat)(a:ByteArray)=>bif decide ((a.size:Int)>(m:Int)) then .inr (.inr (false,())) else .inl s) (fun _=>(.inl (lines,()):(List ByteArray×Unit) ⊕ (Bool×Unit))) i () l=bif l.all (fun s=>decide (s.size≤m)) then .inl (lines,()) else .inr (false,()):=by
  intro l
  induction l with
  | nil=>intro i; rfl
  | cons a l ih =>
   intro i
   unfold Aem
   by_cases ha:a.size≤m
   · rw [show decide ((a.size:Int)>(m:Int))=false by simp; omega,ZaP,Zaf ha]
     exact ih (i+1)
   · rw [show decide ((a.size:Int)>(m:Int))=true by simp; omega,ZaP,Zae ha]
     rfl
 exact H lines 0
theorem Ae5 {n:Nat} {lines:List ByteArray} (hb:lines.length≤4000000000000000000) (hn:lines.length<n):KS n lines=some (Jy lines,()):=by
 unfold KS
 rw [Ae4 200 hb hn (fun n i=>H7 n lines i) (fun n i=>rfl),Zaa]
 unfold Jy
 cases lines.all (fun s=>decide (s.size≤200)) with
 | false=>simp
 | true =>
  show some (decide ((lines.length:Int)≤50),())=_
  by_cases h1:lines.length≤50
  · rw [show decide ((lines.length:Int)≤50)=true by simp; omega,Zaf h1]; rfl
  · rw [show decide ((lines.length:Int)≤50)=false by simp; omega,Zae h1]; rfl
theorem AgV {n:Nat} {l:List ByteArray} (h:l.length≤1000000000):MJ n l=some (l,()):=by
 unfold MJ
 rw [A1 (a:=[]) (by simpa using h)]; rfl
theorem AgW {n:Nat} (h:60≤n):H6 n=some (true,()):=by
 obtain⟨k,rfl⟩:∃ k,n=k+60:=⟨n-60,by omega⟩
 exact AgK k
theorem AgX {α:Type} {l:List α} {k:Nat} (h:k≤l.length):Gl l 0 (k:Int)=some (l.take k):=by
 have:=AcN (l:=l) (a:=0) (b:=k) (by omega) h
 simpa using this
theorem Oy {l:List UInt8} {i:Nat} (h:i<l.length):Le (Ep l) (i:Int)=some ⟨(l[i].toNat:Int)⟩:=by
 show(if h:i<(Ep l).size then some (⟨((Ep l)[i]'h).toNat⟩:IK .u8) else none)=_
 rw [dif_pos (by rw [Fd]; exact h)]
 rfl
theorem Vl {l:List UInt8} {a b:Nat} (h:a≤b) (h2:b≤l.length):HR (Ep l) (a:Int) (b:Int)=some (Ep ((l.drop a).take (b-a))):=by
 unfold HR
 rw [if_pos ⟨by omega,by omega,by rw [Fd]; omega⟩]
 congr 1
 have e:∀ s:ByteArray,s=Ep s.data.toList:=fun s=>(Gd s).symm
 rw [e ((Ep l).extract _ _)]
 congr 1
 rw [ByteArray.data_extract]
 simp [Ep]
theorem Rd.le:∀ {k i:Nat} {b:List UInt8} {r:List (List UInt8)},Rd k i b r→r.length≤k
 | _,_,_,_,.full _ _=>by simp
 | _,_,_,_,.stop _=>by simp
 | _,_,_,_,.more _ h=>by have:=h.le; simp; omega
end Go.Proofs.YtkpgggfibljflaaGreatDoor
