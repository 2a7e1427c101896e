/- What a proof leans on: a machine that steps through code, and what functions compute. -/
import Derived.Test.YtkpgggfibljflaaGreatDoorgSS08
import Derived.Lib.AtoiAll
set_option linter.all false
namespace Go.Proofs.YtkpgggfibljflaaGreatDoor
noncomputable section
open Go Go.RowKit Go.Proofs
open Rep (rep)
def XE:Option Nat→List (V Ty)→Bool
 | none,[]=>true
 | some f,[.fn f' [] []]=>Nat.beq f' f
 | _,_=>false
def ZeL (o:Option Nat) (k:Nat) (F:List (Ty k)→Option (List (Ty k))):GL Ty:=fun args n s=>match args with
 | .hdr k' i::r=>bif XE o r then(match AL.get s i with
  | some (.row k2 l)=>if h:k2=k then bif Nat.beq k' k then .ask (F (h▸l)) fun l'=>.ret ⟨false,.tup [],AL.put s i (.row k l'),n⟩ else .fail else .fail
  | _=>.fail) else .fail
 | _=>.fail
def Uw {α:Type} (le:α→α→Bool) (x:α):List α→List α
 | []=>[x]
 | y::r=>bif le x y then x::y::r else y::Uw le x r
def Eo {α:Type} (le:α→α→Bool):List α→List α
 | []=>[]
 | x::r=>Uw le x (Eo le r)
def DJ {α:Type} (eq:α→α→Bool):List α→Bool
 | []=>true
 | x::r=>!r.any (eq x) && DJ eq r
def Ab9 (l:List Int):Option (List Int):=bif Nat.blt (Bm l) 4611686018427387904 then some (Eo (fun a b=>decide (a≤b)) l) else none
def HL (a b:Aa):Bool:=decide (a.machine<b.machine) || a.machine == b.machine && decide (a.seq≤b.seq)
def XF (x:Int):Bool:=decide (-4611686018427387904≤x) && decide (x≤4611686018427387903)
def AdS (l:List Aa):Option (List Aa):=bif Nat.blt (Bm l) 4611686018427387904 && l.all (fun a=>XF a.machine && XF a.seq) && DJ (fun a b=>a.machine == b.machine && a.seq == b.seq) l then some (Eo HL l) else none
def Ajh (a b:Ah):Bool:=decide (a.driver<b.driver) || a.driver == b.driver && (decide (a.kind.n<b.kind.n) || a.kind.n == b.kind.n && decide (a.duty≤b.duty))
def Ww (l:List Ah):Option (List Ah):=bif Nat.blt (Bm l) 4611686018427387904 && l.all (fun a=>XF a.driver && XF a.duty && (decide (0≤a.kind.n) && decide (a.kind.n≤255))) && DJ (fun a b=>a.driver == b.driver && a.kind.n == b.kind.n && a.duty == b.duty) l then some (Eo Ajh l) else none
def Zgq (_:Nat):GL Ty:=ZeL none 3 Ab9
def Zgr (_:Nat):GL Ty:=ZeL (some 133) 93 AdS
def Zgs (_:Nat):GL Ty:=ZeL (some 180) 280 Ww
def Nk (s:ByteArray):Option (Int ⊕ Int):=if s.size≤281474976710656 then some (match Lib.atoiAll s.data.toList with
 | .ok v=>.inl v
 | .range=>.inr (Lib.atoiSat s.data.toList)
 | _=>.inr 0) else none
def Zev (_:Nat):GL Ty:=fun args n s=>match args with
 | [.str x]=>.ask (Nk x) fun y=>.sum y (fun v=>.ret ⟨false,.tup [.int .i64 v,.nili],s,n⟩) (fun v=>.ret ⟨false,.tup [.int .i64 v,.ifc 317 (.ept [] 0)],s,n⟩)
 | _=>.fail
def Ai2 (x:Int):Option Unit:=bif decide (0≤x) && decide (x≤1000000000) then some () else none
def Zew (_:Nat):GL Ty:=fun args n s=>match args with
 | [.nils,.int .i64 m]=>.ask (Ai2 m) fun _=>.ret ⟨false,.hdr 93 n,AL.put s n (.row 93 []),n+1⟩
 | _=>.fail
end
end Go.Proofs.YtkpgggfibljflaaGreatDoor
