/- The plain law. -/
import Derived.Test.YtkpgggfibljflaaGreatDoorgEL01
set_option linter.all false
set_option maxRecDepth 100000
namespace Go.Proofs.YtkpgggfibljflaaGreatDoor
open Go Go.RowKit Go.Proofs
def bL (l:List UInt8):List (IK .u8):=l.map fun b=>⟨(b.toNat:Int)⟩
theorem Ab5 (l:List UInt8):(bL l).length=l.length:=by simp [bL]
theorem Ih (l:List UInt8):(Og l).size=l.length:=by simp [Og,ByteArray.size]
theorem PX (s:ByteArray):s.size=s.data.toList.length:=by rw [Array.length_toList]; rfl
def Oi (lines:List ByteArray):Bool:=decide (lines.length≤50) && lines.all fun s=>decide (s.size≤200)
theorem Sr {lines:List ByteArray}:Oi lines=true↔lines.length≤50∧∀ s∈lines,s.size≤200:=by simp [Oi]
theorem Aik {n:Nat} {lines:List ByteArray} (hn:lines.length<n) (hbig:lines.length≤4000000000000000000):FA n lines=some (bif Oi lines then 0 else 3,()):=by
  unfold FA Oi
  by_cases h50:lines.length≤50
  · rw [show decide ((lines.length:Int)>50)=false by simp; omega,cond_false,decide_eq_true h50,Bool.true_and]
    have key:=Aa6 (F:=fun n (_:Unit) i=>EG n lines (lines.length:Int) i) (l:=lines) (N:=0) (T:=fun s i a=>bif decide ((a.size:Int)>200) then .inr (.inr (3,())) else .inl s) (E:=fun _=>.inl ())
      (B:=fun n _ i v0=>bif decide ((↑v0.size:Int)>200) then(some (.inr (3,()))) else EG n lines (lines.length:Int) (IntKind.i64.wrap (i+1))) (fun _ _=>True)
      (fun _ _ _=>rfl) (fun n s i hi _ _=>by
        cases decide ((lines[i].size:Int)>200)
        · exact⟨rfl,trivial⟩
        · rfl) hbig lines.length () 0 n (by simp) (by omega) trivial
    rw [show((0:Nat):Int)=0 from rfl,List.drop_zero] at key
    rw [key,Option.bind_some]
    have H:∀ (l:List ByteArray)(i:Nat),AhR (fun(s:Unit)(i:Nat)(a:ByteArray)=>bif decide ((a.size:Int)>200) then .inr (.inr (3,())) else .inl s) (fun _=>(.inl ():Unit ⊕ (Int×Unit))) i () l=bif l.all (fun s=>decide (s.size≤200)) then .inl () else .inr (3,()):=by
      intro l
      induction l with
      | nil=>intro i; rfl
      | cons a l ih =>
        intro i
        unfold AhR
        by_cases ha:a.size≤200
        · rw [show decide ((a.size:Int)>200)=false by simp; omega,List.all_cons,decide_eq_true ha]
          exact ih (i+1)
        · rw [show decide ((a.size:Int)>200)=true by simp; omega,List.all_cons,decide_eq_false ha]
          rfl
    rw [H]
    cases lines.all (fun s=>decide (s.size≤200)) <;> rfl
  · rw [show decide ((lines.length:Int)>50)=true by simp; omega,decide_eq_false h50]
    rfl
end Go.Proofs.YtkpgggfibljflaaGreatDoor
namespace Go.Proofs.YtkpgggfibljflaaGreatDoor
open Go Go.RowKit Go.Proofs
def AmX (c:UInt8):Bool:=decide (48≤c.toNat) && decide (c.toNat≤57)
def Ail:Nat→List UInt8→Option Nat
  | a,[]=>some a
  | a,c::l=>bif AmX c then Ail (10*a+(c.toNat-48)) l else none
theorem Alu {x:Int} (h0:0≤x) (h1:x≤255):IntKind.u8.wrap x=x:=by
  simp [IntKind.wrap,IntKind.bits,IntKind.signed]; omega
theorem AcK (full:List UInt8) (hf:full.length≤3):∀ (n i a:Nat),full.length-i<n→i≤full.length→a<10 ^ i→Gi n (a:Int) (bL full) ((bL full).length:Int) (i:Int)=some (match Ail a (full.drop i) with | some v=>.inl ((v:Int),()) | none=>.inr (-1,()))
  | 0,_,_,h,_,_=>absurd h (Nat.not_lt_zero _)
  | n+1,i,a,h,hi,ha=>by
    rw [Gi]
    by_cases hx:i<full.length
    · have hd:full.drop i=full[i]::full.drop (i+1):=List.drop_eq_getElem_cons hx
      have hb:(bL full)[i]'(by rw [Ab5]; exact hx)=⟨(full[i].toNat:Int)⟩:=by simp [bL]
      rw [show decide ((i:Int)<((bL full).length:Int))=true by rw [Ab5]; simp; omega,cond_true,Ft (by rw [Ab5]; exact hx),Option.bind_some,hb,hd]
      simp only [Ail,AmX]
      have h3:10 ^ i≤10 ^ 3:=Nat.pow_le_pow_right (by decide) (by omega)
      by_cases h48:full[i].toNat<48
      · rw [show decide (((full[i].toNat:Nat):Int)<48)=true by simp; omega,show decide (48≤full[i].toNat)=false by simp; omega]
        rfl
      · rw [show decide (((full[i].toNat:Nat):Int)<48)=false by simp; omega,show decide (48≤full[i].toNat)=true by simp; omega]
        by_cases h57:full[i].toNat≤57
        · rw [show decide (((full[i].toNat:Nat):Int)>57)=false by simp; omega,decide_eq_true h57]
          simp only [Bool.not_false,cond_true,cond_false,Bool.and_self]
          have e1:IntKind.i64.wrap (IntKind.i64.wrap (10*(a:Int))+IntKind.i64.wrap (IntKind.u8.wrap (((full[i].toNat:Nat):Int)-48)))=((10*a+(full[i].toNat-48):Nat):Int):=by
            rw [Alu (by omega) (by omega),P7 (x:=10*(a:Int)) (by omega) (by omega),P7 (x:=((full[i].toNat:Nat):Int)-48) (by omega) (by omega),P7 (by omega) (by omega)]
            omega
          rw [e1,wN i (by omega)]
          exact AcK full hf n (i+1) _ (by omega) (by omega) (by rw [Nat.pow_succ]; omega)
        · rw [show decide (((full[i].toNat:Nat):Int)>57)=true by simp; omega,decide_eq_false h57]
          rfl
    · have hd:full.drop i=[]:=by simp; omega
      rw [show decide ((i:Int)<((bL full).length:Int))=false by rw [Ab5]; simp; omega,hd]
      rfl
theorem length_eq {n:Nat} {t:List UInt8} (ht:t.length=3) (hn:3<n):Rn n (bL t)=some (match Ail 0 t with | some v=>((v:Int),()) | none=>(-1,())):=by
  unfold Rn
  have h:=AcK t (by omega) n 0 0 (by omega) (by omega) (by decide)
  rw [show((0:Nat):Int)=0 from rfl,List.drop_zero] at h
  rw [h,Option.bind_some]
  cases Ail 0 t <;> rfl
theorem AgD {α:Type} {l:List α} {a b:Nat} (h:a≤b) (h2:b≤l.length):HB l (a:Int) (b:Int)=some ((l.drop a).take (b-a)):=by
  unfold HB
  rw [if_pos ⟨by omega,by omega,by omega⟩]
  simp
end Go.Proofs.YtkpgggfibljflaaGreatDoor
namespace Go.Proofs.YtkpgggfibljflaaGreatDoor
open Go Go.RowKit Go.Proofs
theorem Aim {n:Nat} {lines:List ByteArray} (m:Nat) (hb:lines.length≤4000000000000000000) (hn:lines.length<n) (F:Nat→Int→Option ((List ByteArray×Unit) ⊕ (Bool×Unit)))
    (hF:∀ n i,F (n+1) i=bif decide (i<(lines.length:Int)) then(AO lines i).bind (fun v0=>bif decide ((↑v0.size:Int)>(m:Int)) then(some (.inr (false,()))) else F n (IntKind.i64.wrap (i+1))) else some (.inl (lines,()))) :
    F n 0=some (bif lines.all (fun s=>decide (s.size≤m)) then .inl (lines,()) else .inr (false,())):=by
  have key:=Aa6 (F:=fun n (_:Unit) i=>F n i) (l:=lines) (N:=0) (T:=fun s i a=>bif decide ((a.size:Int)>(m:Int)) then .inr (.inr (false,())) else .inl s) (E:=fun _=>.inl (lines,()))
    (B:=fun n _ i v0=>bif decide ((↑v0.size:Int)>(m:Int)) then(some (.inr (false,()))) else F n (IntKind.i64.wrap (i+1))) (fun _ _=>True)
    (fun n _ i=>hF n i) (fun n s i hi _ _=>by
      cases decide ((lines[i].size:Int)>(m:Int))
      · exact⟨rfl,trivial⟩
      · rfl) hb lines.length () 0 n (by simp) (by omega) trivial
  rw [show((0:Nat):Int)=0 from rfl,List.drop_zero] at key
  rw [key]
  congr 1
  have H:∀ (l:List ByteArray)(i:Nat),AhR (fun(s:Unit)(i:Nat)(a:ByteArray)=>bif decide ((a.size:Int)>(m:Int)) then .inr (.inr (false,())) else .inl s) (fun _=>(.inl (lines,()):(List ByteArray×Unit) ⊕ (Bool×Unit))) i () l=bif l.all (fun s=>decide (s.size≤m)) then .inl (lines,()) else .inr (false,()):=by
    intro l
    induction l with
    | nil=>intro i; rfl
    | cons a l ih =>
      intro i
      unfold AhR
      by_cases ha:a.size≤m
      · rw [show decide ((a.size:Int)>(m:Int))=false by simp; omega,List.all_cons,decide_eq_true ha]
        exact ih (i+1)
      · rw [show decide ((a.size:Int)>(m:Int))=true by simp; omega,List.all_cons,decide_eq_false ha]
        rfl
  exact H lines 0
theorem Ain {n:Nat} {lines:List ByteArray} (hb:lines.length≤4000000000000000000) (hn:lines.length<n):Pj n lines=some (Oi lines,()):=by
  unfold Pj
  rw [Aim 200 hb hn (fun n i=>J9 n lines i) (fun n i=>rfl),Option.bind_some]
  unfold Oi
  cases lines.all (fun s=>decide (s.size≤200)) with
  | false=>simp
  | true =>
    show some (decide ((lines.length:Int)≤50),())=_
    by_cases h1:lines.length≤50
    · rw [show decide ((lines.length:Int)≤50)=true by simp; omega,decide_eq_true h1]; rfl
    · rw [show decide ((lines.length:Int)≤50)=false by simp; omega,decide_eq_false h1]; rfl
theorem Akr {n:Nat} {l:List ByteArray} (h:l.length≤1000000000):R3 n l=some (l,()):=by
  unfold R3
  rw [B8 (a:=[]) (by simpa using h)]; rfl
theorem Aks {n:Nat} (h:60≤n):J5 n=some (true,()):=by
  obtain⟨k,rfl⟩:∃ k,n=k+60:=⟨n-60,by omega⟩
  exact Akj k
theorem Akt {α:Type} {l:List α} {k:Nat} (h:k≤l.length):HB l 0 (k:Int)=some (l.take k):=by
  have:=AgD (l:=l) (a:=0) (b:=k) (by omega) h
  simpa using this
end Go.Proofs.YtkpgggfibljflaaGreatDoor
namespace Go.Proofs.YtkpgggfibljflaaGreatDoor
open Go Go.RowKit Go.Proofs
theorem Tz {l:List UInt8} {i:Nat} (h:i<l.length):Px (Og l) (i:Int)=some ⟨(l[i].toNat:Int)⟩:=by
  show(if h:i<(Og l).size then some (⟨((Og l)[i]'h).toNat⟩:IK .u8) else none)=_
  rw [dif_pos (by rw [Ih]; exact h)]
  rfl
theorem Aa7 {l:List UInt8} {a b:Nat} (h:a≤b) (h2:b≤l.length):JU (Og l) (a:Int) (b:Int)=some (Og ((l.drop a).take (b-a))):=by
  unfold JU
  rw [if_pos ⟨by omega,by omega,by rw [Ih]; omega⟩]
  congr 1
  have e:∀ s:ByteArray,s=Og s.data.toList:=fun s=>(Qx s).symm
  rw [e ((Og l).extract _ _)]
  congr 1
  rw [ByteArray.data_extract]
  simp [Og]
theorem Rd.le:∀ {k i:Nat} {b:List UInt8} {r:List (List UInt8)},Rd k i b r→r.length≤k
  | _,_,_,_,.full _ _=>by simp
  | _,_,_,_,.stop _=>by simp
  | _,_,_,_,.more _ h=>by have:=h.le; simp; omega
end Go.Proofs.YtkpgggfibljflaaGreatDoor
