/- What a proof leans on: a machine that steps through code, and what functions compute. -/
import Derived.Test.YtkpgggfibljflaaGreatDoorgRS08
import Derived.Lib.AtoiAll
set_option linter.all false
namespace Go.Proofs.YtkpgggfibljflaaGreatDoor
noncomputable section
open Go Go.RowKit Go.Proofs
open Rep (rep)
def Alp:Option Nat→List (V Ty)→Bool
 | none,[]=>true
 | some f,[.fn f' [] []]=>Nat.beq f' f
 | _,_=>false
def ZjS (o:Option Nat) (k:Nat) (F:List (Ty k)→Option (List (Ty k))):AA Ty:=fun args n s=>match args with
 | .hdr k' i::r=>bif Alp o r then(match AL.get s i with
  | some (.row k2 l)=>if h:k2=k then bif Nat.beq k' k then .ask (F (h▸l)) fun l'=>.ret ⟨false,.tup [],AL.put s i (.row k l'),n⟩ else .fail else .fail
  | _=>.fail) else .fail
 | _=>.fail
def AhO {α:Type} (le:α→α→Bool) (x:α):List α→List α
 | []=>[x]
 | y::r=>bif le x y then x::y::r else y::AhO le x r
def KG {α:Type} (le:α→α→Bool):List α→List α
 | []=>[]
 | x::r=>AhO le x (KG le r)
def F0 {α:Type} (eq:α→α→Bool):List α→Bool
 | []=>true
 | x::r=>!r.any (eq x) && F0 eq r
def Apc (l:List Int):Option (List Int):=bif Nat.blt (BJ l) 4611686018427387904 then some (KG (fun a b=>decide (a≤b)) l) else none
def Aca (a b:Ag):Bool:=decide (a.machine<b.machine) || a.machine == b.machine && decide (a.seq≤b.seq)
def Alq (x:Int):Bool:=decide (-4611686018427387904≤x) && decide (x≤4611686018427387903)
def Ar7 (l:List Ag):Option (List Ag):=bif Nat.blt (BJ l) 4611686018427387904 && l.all (fun a=>Alq a.machine && Alq a.seq) && F0 (fun a b=>a.machine == b.machine && a.seq == b.seq) l then some (KG Aca l) else none
def AwD (a b:Aw):Bool:=decide (a.driver<b.driver) || a.driver == b.driver && (decide (a.kind.n<b.kind.n) || a.kind.n == b.kind.n && decide (a.duty≤b.duty))
def Akl (l:List Aw):Option (List Aw):=bif Nat.blt (BJ l) 4611686018427387904 && l.all (fun a=>Alq a.driver && Alq a.duty && (decide (0≤a.kind.n) && decide (a.kind.n≤255))) && F0 (fun a b=>a.driver == b.driver && a.kind.n == b.kind.n && a.duty == b.duty) l then some (KG AwD l) else none
def Zkx (_:Nat):AA Ty:=ZjS none 3 Apc
def Zky (_:Nat):AA Ty:=ZjS (some 133) 93 Ar7
def Zkz (_:Nat):AA Ty:=ZjS (some 180) 280 Akl
def Aeu (s:ByteArray):Option (Int ⊕ Int):=if s.size≤281474976710656 then some (match Lib.atoiAll s.data.toList with
 | .ok v=>.inl v
 | .range=>.inr (Lib.atoiSat s.data.toList)
 | _=>.inr 0) else none
def ZhL (_:Nat):AA Ty:=fun args n s=>match args with
 | [.str x]=>.ask (Aeu x) fun y=>.sum y (fun v=>.ret ⟨false,.tup [.int .i64 v,.nili],s,n⟩) (fun v=>.ret ⟨false,.tup [.int .i64 v,.ifc 317 (.ept [] 0)],s,n⟩)
 | _=>.fail
def Awb (x:Int):Option Unit:=bif decide (0≤x) && decide (x≤1000000000) then some () else none
def Zj2 (_:Nat):AA Ty:=fun args n s=>match args with
 | [.nils,.int .i64 m]=>.ask (Awb m) fun _=>.ret ⟨false,.hdr 93 n,AL.put s n (.row 93 []),n+1⟩
 | _=>.fail
end
end Go.Proofs.YtkpgggfibljflaaGreatDoor
