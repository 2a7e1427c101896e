/- The plain law. -/
import Derived.Test.YtkpgggfibljflaaGreatDoorgDL01
set_option linter.all false
set_option maxRecDepth 100000
namespace Go.Proofs.YtkpgggfibljflaaGreatDoor
open Go Go.RowKit Go.Proofs
def bL (l:List UInt8):List (IK .u8):=l.map fun b=>⟨(b.toNat:Int)⟩
theorem Afo (l:List UInt8):(bL l).length=l.length:=by simp [bL]
theorem Ji (l:List UInt8):(Pu l).size=l.length:=by simp [Pu,ByteArray.size]
theorem Rv (s:ByteArray):s.size=s.data.toList.length:=by rw [Array.length_toList]; rfl
def Jj (lines:List ByteArray):Bool:=decide (lines.length≤50) && lines.all fun s=>decide (s.size≤200)
theorem Du {lines:List ByteArray}:Jj lines=true↔lines.length≤50∧∀ s∈lines,s.size≤200:=by simp [Jj]
theorem Aa1 {n:Nat} {lines:List ByteArray} (hn:lines.length<n) (hbig:lines.length≤4000000000000000000):EA n lines=some (bif Jj lines then 0 else 3,()):=by
  unfold EA Jj
  by_cases h50:lines.length≤50
  · rw [show decide ((lines.length:Int)>50)=false by simp; omega,cond_false,decide_eq_true h50,Bool.true_and]
    have key:=AdJ (F:=fun n (_:Unit) i=>Fl n lines (lines.length:Int) i) (l:=lines) (N:=0) (T:=fun s i a=>bif decide ((a.size:Int)>200) then .inr (.inr (3,())) else .inl s) (E:=fun _=>.inl ())
      (B:=fun n _ i v0=>bif decide ((↑v0.size:Int)>200) then(some (.inr (3,()))) else Fl n lines (lines.length:Int) (IntKind.i64.wrap (i+1))) (fun _ _=>True)
      (fun _ _ _=>rfl) (fun n s i hi _ _=>by
        cases decide ((lines[i].size:Int)>200)
        · exact⟨rfl,trivial⟩
        · rfl) hbig lines.length () 0 n (by simp) (by omega) trivial
    rw [show((0:Nat):Int)=0 from rfl,List.drop_zero] at key
    rw [key,Option.bind_some]
    have H:∀ (l:List ByteArray)(i:Nat),AlQ (fun(s:Unit)(i:Nat)(a:ByteArray)=>bif decide ((a.size:Int)>200) then .inr (.inr (3,())) else .inl s) (fun _=>(.inl ():Unit ⊕ (Int×Unit))) i () l=bif l.all (fun s=>decide (s.size≤200)) then .inl () else .inr (3,()):=by
      intro l
      induction l with
      | nil=>intro i; rfl
      | cons a l ih =>
        intro i
        unfold AlQ
        by_cases ha:a.size≤200
        · rw [show decide ((a.size:Int)>200)=false by simp; omega,List.all_cons,decide_eq_true ha]
          exact ih (i+1)
        · rw [show decide ((a.size:Int)>200)=true by simp; omega,List.all_cons,decide_eq_false ha]
          rfl
    rw [H]
    cases lines.all (fun s=>decide (s.size≤200)) <;> rfl
  · rw [show decide ((lines.length:Int)>50)=true by simp; omega,decide_eq_false h50]
    rfl
end Go.Proofs.YtkpgggfibljflaaGreatDoor
namespace Go.Proofs.YtkpgggfibljflaaGreatDoor
open Go Go.RowKit Go.Proofs
def AqD (c:UInt8):Bool:=decide (48≤c.toNat) && decide (c.toNat≤57)
def Ama:Nat→List UInt8→Option Nat
  | a,[]=>some a
  | a,c::l=>bif AqD c then Ama (10*a+(c.toNat-48)) l else none
theorem Ape {x:Int} (h0:0≤x) (h1:x≤255):IntKind.u8.wrap x=x:=by
  simp [IntKind.wrap,IntKind.bits,IntKind.signed]; omega
theorem Ag7 (full:List UInt8) (hf:full.length≤3):∀ (n i a:Nat),full.length-i<n→i≤full.length→a<10 ^ i→GG n (a:Int) (bL full) ((bL full).length:Int) (i:Int)=some (match Ama a (full.drop i) with | some v=>.inl ((v:Int),()) | none=>.inr (-1,()))
  | 0,_,_,h,_,_=>absurd h (Nat.not_lt_zero _)
  | n+1,i,a,h,hi,ha=>by
    rw [GG]
    by_cases hx:i<full.length
    · have hd:full.drop i=full[i]::full.drop (i+1):=List.drop_eq_getElem_cons hx
      have hb:(bL full)[i]'(by rw [Afo]; exact hx)=⟨(full[i].toNat:Int)⟩:=by simp [bL]
      rw [show decide ((i:Int)<((bL full).length:Int))=true by rw [Afo]; simp; omega,cond_true,Dr (by rw [Afo]; exact hx),Option.bind_some,hb,hd]
      simp only [Ama,AqD]
      have h3:10 ^ i≤10 ^ 3:=Nat.pow_le_pow_right (by decide) (by omega)
      by_cases h48:full[i].toNat<48
      · rw [show decide (((full[i].toNat:Nat):Int)<48)=true by simp; omega,show decide (48≤full[i].toNat)=false by simp; omega]
        rfl
      · rw [show decide (((full[i].toNat:Nat):Int)<48)=false by simp; omega,show decide (48≤full[i].toNat)=true by simp; omega]
        by_cases h57:full[i].toNat≤57
        · rw [show decide (((full[i].toNat:Nat):Int)>57)=false by simp; omega,decide_eq_true h57]
          simp only [Bool.not_false,cond_true,cond_false,Bool.and_self]
          have e1:IntKind.i64.wrap (IntKind.i64.wrap (10*(a:Int))+IntKind.i64.wrap (IntKind.u8.wrap (((full[i].toNat:Nat):Int)-48)))=((10*a+(full[i].toNat-48):Nat):Int):=by
            rw [Ape (by omega) (by omega),HS (x:=10*(a:Int)) (by omega) (by omega),HS (x:=((full[i].toNat:Nat):Int)-48) (by omega) (by omega),HS (by omega) (by omega)]
            omega
          rw [e1,wN i (by omega)]
          exact Ag7 full hf n (i+1) _ (by omega) (by omega) (by rw [Nat.pow_succ]; omega)
        · rw [show decide (((full[i].toNat:Nat):Int)>57)=true by simp; omega,decide_eq_false h57]
          rfl
    · have hd:full.drop i=[]:=by simp; omega
      rw [show decide ((i:Int)<((bL full).length:Int))=false by rw [Afo]; simp; omega,hd]
      rfl
theorem length_eq {n:Nat} {t:List UInt8} (ht:t.length=3) (hn:3<n):SE n (bL t)=some (match Ama 0 t with | some v=>((v:Int),()) | none=>(-1,())):=by
  unfold SE
  have h:=Ag7 t (by omega) n 0 0 (by omega) (by omega) (by decide)
  rw [show((0:Nat):Int)=0 from rfl,List.drop_zero] at h
  rw [h,Option.bind_some]
  cases Ama 0 t <;> rfl
theorem Ak6 {α:Type} {l:List α} {a b:Nat} (h:a≤b) (h2:b≤l.length):GP l (a:Int) (b:Int)=some ((l.drop a).take (b-a)):=by
  unfold GP
  rw [if_pos ⟨by omega,by omega,by omega⟩]
  simp
end Go.Proofs.YtkpgggfibljflaaGreatDoor
namespace Go.Proofs.YtkpgggfibljflaaGreatDoor
open Go Go.RowKit Go.Proofs
theorem Amb {n:Nat} {lines:List ByteArray} (m:Nat) (hb:lines.length≤4000000000000000000) (hn:lines.length<n) (F:Nat→Int→Option ((List ByteArray×Unit) ⊕ (Bool×Unit)))
    (hF:∀ n i,F (n+1) i=bif decide (i<(lines.length:Int)) then(AC lines i).bind (fun v0=>bif decide ((↑v0.size:Int)>(m:Int)) then(some (.inr (false,()))) else F n (IntKind.i64.wrap (i+1))) else some (.inl (lines,()))) :
    F n 0=some (bif lines.all (fun s=>decide (s.size≤m)) then .inl (lines,()) else .inr (false,())):=by
  have key:=AdJ (F:=fun n (_:Unit) i=>F n i) (l:=lines) (N:=0) (T:=fun s i a=>bif decide ((a.size:Int)>(m:Int)) then .inr (.inr (false,())) else .inl s) (E:=fun _=>.inl (lines,()))
    (B:=fun n _ i v0=>bif decide ((↑v0.size:Int)>(m:Int)) then(some (.inr (false,()))) else F n (IntKind.i64.wrap (i+1))) (fun _ _=>True)
    (fun n _ i=>hF n i) (fun n s i hi _ _=>by
      cases decide ((lines[i].size:Int)>(m:Int))
      · exact⟨rfl,trivial⟩
      · rfl) hb lines.length () 0 n (by simp) (by omega) trivial
  rw [show((0:Nat):Int)=0 from rfl,List.drop_zero] at key
  rw [key]
  congr 1
  have H:∀ (l:List ByteArray)(i:Nat),AlQ (fun(s:Unit)(i:Nat)(a:ByteArray)=>bif decide ((a.size:Int)>(m:Int)) then .inr (.inr (false,())) else .inl s) (fun _=>(.inl (lines,()):(List ByteArray×Unit) ⊕ (Bool×Unit))) i () l=bif l.all (fun s=>decide (s.size≤m)) then .inl (lines,()) else .inr (false,()):=by
    intro l
    induction l with
    | nil=>intro i; rfl
    | cons a l ih =>
      intro i
      unfold AlQ
      by_cases ha:a.size≤m
      · rw [show decide ((a.size:Int)>(m:Int))=false by simp; omega,List.all_cons,decide_eq_true ha]
        exact ih (i+1)
      · rw [show decide ((a.size:Int)>(m:Int))=true by simp; omega,List.all_cons,decide_eq_false ha]
        rfl
  exact H lines 0
theorem Amc {n:Nat} {lines:List ByteArray} (hb:lines.length≤4000000000000000000) (hn:lines.length<n):Qy n lines=some (Jj lines,()):=by
  unfold Qy
  rw [Amb 200 hb hn (fun n i=>KD n lines i) (fun n i=>rfl),Option.bind_some]
  unfold Jj
  cases lines.all (fun s=>decide (s.size≤200)) with
  | false=>simp
  | true =>
    show some (decide ((lines.length:Int)≤50),())=_
    by_cases h1:lines.length≤50
    · rw [show decide ((lines.length:Int)≤50)=true by simp; omega,decide_eq_true h1]; rfl
    · rw [show decide ((lines.length:Int)≤50)=false by simp; omega,decide_eq_false h1]; rfl
theorem Nx {n:Nat} {l:List ByteArray} (h:l.length≤1000000000):Ch n l=some (l,()):=by
  unfold Ch
  rw [B5 (a:=[]) (by simpa using h)]; rfl
theorem ZQ {n:Nat} (h:60≤n):A5 n=some (true,()):=by
  obtain⟨k,rfl⟩:∃ k,n=k+60:=⟨n-60,by omega⟩
  exact AnY k
theorem ZR {α:Type} {l:List α} {k:Nat} (h:k≤l.length):GP l 0 (k:Int)=some (l.take k):=by
  have:=Ak6 (l:=l) (a:=0) (b:=k) (by omega) h
  simpa using this
end Go.Proofs.YtkpgggfibljflaaGreatDoor
namespace Go.Proofs.YtkpgggfibljflaaGreatDoor
open Go Go.RowKit Go.Proofs
theorem Vj {l:List UInt8} {i:Nat} (h:i<l.length):QN (Pu l) (i:Int)=some ⟨(l[i].toNat:Int)⟩:=by
  show(if h:i<(Pu l).size then some (⟨((Pu l)[i]'h).toNat⟩:IK .u8) else none)=_
  rw [dif_pos (by rw [Ji]; exact h)]
  rfl
theorem AdK {l:List UInt8} {a b:Nat} (h:a≤b) (h2:b≤l.length):KX (Pu l) (a:Int) (b:Int)=some (Pu ((l.drop a).take (b-a))):=by
  unfold KX
  rw [if_pos ⟨by omega,by omega,by rw [Ji]; omega⟩]
  congr 1
  have e:∀ s:ByteArray,s=Pu s.data.toList:=fun s=>(RN s).symm
  rw [e ((Pu l).extract _ _)]
  congr 1
  rw [ByteArray.data_extract]
  simp [Pu]
theorem Rd.le:∀ {k i:Nat} {b:List UInt8} {r:List (List UInt8)},Rd k i b r→r.length≤k
  | _,_,_,_,.full _ _=>by simp
  | _,_,_,_,.stop _=>by simp
  | _,_,_,_,.more _ h=>by have:=h.le; simp; omega
end Go.Proofs.YtkpgggfibljflaaGreatDoor
