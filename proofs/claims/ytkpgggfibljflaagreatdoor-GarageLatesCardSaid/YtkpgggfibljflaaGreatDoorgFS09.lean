/- What a proof leans on: a machine that steps through code, and what functions compute. -/
import Derived.Test.YtkpgggfibljflaaGreatDoorgFS08
import Derived.Lib.AtoiAll
set_option linter.all false
namespace Go.Proofs.YtkpgggfibljflaaGreatDoor
noncomputable section
open Go Go.RowKit Go.Proofs
open Rep (rep)
def An6:Option Nat→List (V Ty)→Bool
 | none,[]=>true
 | some f,[.fn f' [] []]=>Nat.beq f' f
 | _,_=>false
def Zky (o:Option Nat) (k:Nat) (F:List (Ty k)→Option (List (Ty k))):A9 Ty:=fun args n s=>match args with
 | .hdr k' i::r=>bif An6 o r then(match AL.get s i with
  | some (.row k2 l)=>if h:k2=k then bif Nat.beq k' k then .ask (F (h▸l)) fun l'=>.ret ⟨false,.tup [],AL.put s i (.row k l'),n⟩ else .fail else .fail
  | _=>.fail) else .fail
 | _=>.fail
def AjX {α:Type} (le:α→α→Bool) (x:α):List α→List α
 | []=>[x]
 | y::r=>bif le x y then x::y::r else y::AjX le x r
def Le {α:Type} (le:α→α→Bool):List α→List α
 | []=>[]
 | x::r=>AjX le x (Le le r)
def F6 {α:Type} (eq:α→α→Bool):List α→Bool
 | []=>true
 | x::r=>!r.any (eq x) && F6 eq r
def Ar0 (l:List Int):Option (List Int):=bif Nat.blt (BL l) 4611686018427387904 then some (Le (fun a b=>decide (a≤b)) l) else none
def Adq (a b:Ag):Bool:=decide (a.machine<b.machine) || a.machine == b.machine && decide (a.seq≤b.seq)
def An7 (x:Int):Bool:=decide (-4611686018427387904≤x) && decide (x≤4611686018427387903)
def AtS (l:List Ag):Option (List Ag):=bif Nat.blt (BL l) 4611686018427387904 && l.all (fun a=>An7 a.machine && An7 a.seq) && F6 (fun a b=>a.machine == b.machine && a.seq == b.seq) l then some (Le Adq l) else none
def AyE (a b:Ay):Bool:=decide (a.driver<b.driver) || a.driver == b.driver && (decide (a.kind.n<b.kind.n) || a.kind.n == b.kind.n && decide (a.duty≤b.duty))
def Am2 (l:List Ay):Option (List Ay):=bif Nat.blt (BL l) 4611686018427387904 && l.all (fun a=>An7 a.driver && An7 a.duty && (decide (0≤a.kind.n) && decide (a.kind.n≤255))) && F6 (fun a b=>a.driver == b.driver && a.kind.n == b.kind.n && a.duty == b.duty) l then some (Le AyE l) else none
def ZkY (_:Nat):A9 Ty:=Zky none 3 Ar0
def ZkZ (_:Nat):A9 Ty:=Zky (some 133) 93 AtS
def Zla (_:Nat):A9 Ty:=Zky (some 180) 280 Am2
def ZC (s:ByteArray):Option (Int ⊕ Int):=if s.size≤281474976710656 then some (match Lib.atoiAll s.data.toList with
 | .ok v=>.inl v
 | .range=>.inr (Lib.atoiSat s.data.toList)
 | _=>.inr 0) else none
def ZhV (_:Nat):A9 Ty:=fun args n s=>match args with
 | [.str x]=>.ask (ZC x) fun y=>.sum y (fun v=>.ret ⟨false,.tup [.int .i64 v,.nili],s,n⟩) (fun v=>.ret ⟨false,.tup [.int .i64 v,.ifc 317 (.ept [] 0)],s,n⟩)
 | _=>.fail
def Ayj (x:Int):Option Unit:=bif decide (0≤x) && decide (x≤1000000000) then some () else none
def ZjV (_:Nat):A9 Ty:=fun args n s=>match args with
 | [.nils,.int .i64 m]=>.ask (Ayj m) fun _=>.ret ⟨false,.hdr 93 n,AL.put s n (.row 93 []),n+1⟩
 | _=>.fail
end
end Go.Proofs.YtkpgggfibljflaaGreatDoor
