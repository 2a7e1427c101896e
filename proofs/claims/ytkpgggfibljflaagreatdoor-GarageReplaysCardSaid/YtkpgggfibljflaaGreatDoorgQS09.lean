/- What a proof leans on: a machine that steps through code, and what functions compute. -/
import Derived.Test.YtkpgggfibljflaaGreatDoorgQS08
import Derived.Lib.AtoiAll
set_option linter.all false
namespace Go.Proofs.YtkpgggfibljflaaGreatDoor
noncomputable section
open Go Go.RowKit Go.Proofs
open Rep (rep)
def TN:Option Nat→List (V Ty)→Bool
 | none,[]=>true
 | some f,[.fn f' [] []]=>Nat.beq f' f
 | _,_=>false
def ZdZ (o:Option Nat) (k:Nat) (F:List (Ty k)→Option (List (Ty k))):FQ Ty:=fun args n s=>match args with
 | .hdr k' i::r=>bif TN o r then(match AL.get s i with
  | some (.row k2 l)=>if h:k2=k then bif Nat.beq k' k then .ask (F (h▸l)) fun l'=>.ret ⟨false,.tup [],AL.put s i (.row k l'),n⟩ else .fail else .fail
  | _=>.fail) else .fail
 | _=>.fail
def VU {α:Type} (le:α→α→Bool) (x:α):List α→List α
 | []=>[x]
 | y::r=>bif le x y then x::y::r else y::VU le x r
def Ev {α:Type} (le:α→α→Bool):List α→List α
 | []=>[]
 | x::r=>VU le x (Ev le r)
def CO {α:Type} (eq:α→α→Bool):List α→Bool
 | []=>true
 | x::r=>!r.any (eq x) && CO eq r
def Xt (l:List Int):Option (List Int):=bif Nat.blt (AZ l) 4611686018427387904 then some (Ev (fun a b=>decide (a≤b)) l) else none
def Jl (a b:Ab):Bool:=decide (a.machine<b.machine) || a.machine == b.machine && decide (a.seq≤b.seq)
def TO (x:Int):Bool:=decide (-4611686018427387904≤x) && decide (x≤4611686018427387903)
def Z4 (l:List Ab):Option (List Ab):=bif Nat.blt (AZ l) 4611686018427387904 && l.all (fun a=>TO a.machine && TO a.seq) && CO (fun a b=>a.machine == b.machine && a.seq == b.seq) l then some (Ev Jl l) else none
def Aeo (a b:Ak):Bool:=decide (a.driver<b.driver) || a.driver == b.driver && (decide (a.kind.n<b.kind.n) || a.kind.n == b.kind.n && decide (a.duty≤b.duty))
def SB (l:List Ak):Option (List Ak):=bif Nat.blt (AZ l) 4611686018427387904 && l.all (fun a=>TO a.driver && TO a.duty && (decide (0≤a.kind.n) && decide (a.kind.n≤255))) && CO (fun a b=>a.driver == b.driver && a.kind.n == b.kind.n && a.duty == b.duty) l then some (Ev Aeo l) else none
def ZeG (_:Nat):FQ Ty:=ZdZ none 3 Xt
def ZeH (_:Nat):FQ Ty:=ZdZ (some 133) 93 Z4
def ZeI (_:Nat):FQ Ty:=ZdZ (some 180) 280 SB
def KJ (s:ByteArray):Option (Int ⊕ Int):=if s.size≤281474976710656 then some (match Lib.atoiAll s.data.toList with
 | .ok v=>.inl v
 | .range=>.inr (Lib.atoiSat s.data.toList)
 | _=>.inr 0) else none
def ZdI (_:Nat):FQ Ty:=fun args n s=>match args with
 | [.str x]=>.ask (KJ x) fun y=>.sum y (fun v=>.ret ⟨false,.tup [.int .i64 v,.nili],s,n⟩) (fun v=>.ret ⟨false,.tup [.int .i64 v,.ifc 317 (.ept [] 0)],s,n⟩)
 | _=>.fail
def AdE (x:Int):Option Unit:=bif decide (0≤x) && decide (x≤1000000000) then some () else none
def ZdJ (_:Nat):FQ Ty:=fun args n s=>match args with
 | [.nils,.int .i64 m]=>.ask (AdE m) fun _=>.ret ⟨false,.hdr 93 n,AL.put s n (.row 93 []),n+1⟩
 | _=>.fail
end
end Go.Proofs.YtkpgggfibljflaaGreatDoor
