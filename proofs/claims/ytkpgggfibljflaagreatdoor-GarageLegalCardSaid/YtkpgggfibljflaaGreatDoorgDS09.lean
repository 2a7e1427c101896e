/- What a proof leans on: a machine that steps through code, and what functions compute. -/
import Derived.Test.YtkpgggfibljflaaGreatDoorgDS08
import Derived.Lib.AtoiAll
set_option linter.all false
namespace Go.Proofs.YtkpgggfibljflaaGreatDoor
open Go Go.RowKit Go.Proofs
open Rep (rep)
def Agi:Option Nat→List (V Ty)→Bool
  | none,[]=>true
  | some f,[.fn f' [] []]=>Nat.beq f' f
  | _,_=>false
noncomputable def sortL (o:Option Nat) (k:Nat) (F:List (Ty k)→Option (List (Ty k))):AH Ty:=fun args n s=>match args with
  | .hdr k' i::r=>bif Agi o r then(match AL.get s i with
    | some (.row k2 l)=>if h:k2=k then bif Nat.beq k' k then .ask (F (h▸l)) fun l'=>.ret ⟨false,.tup [],AL.put s i (.row k l'),n⟩ else .fail else .fail
    | _=>.fail) else .fail
  | _=>.fail
def Acp {α:Type} (le:α→α→Bool) (x:α):List α→List α
  | []=>[x]
  | y::r=>bif le x y then x::y::r else y::Acp le x r
def KZ {α:Type} (le:α→α→Bool):List α→List α
  | []=>[]
  | x::r=>Acp le x (KZ le r)
def EC {α:Type} (eq:α→α→Bool):List α→Bool
  | []=>true
  | x::r=>!r.any (eq x) && EC eq r
def Ajv (l:List Int):Option (List Int):=bif Nat.blt (BF l) 4611686018427387904 then some (KZ (fun a b=>decide (a≤b)) l) else none
def AlS (a b:Aj):Bool:=decide (a.machine<b.machine) || a.machine == b.machine && decide (a.seq≤b.seq)
def Agj (x:Int):Bool:=decide (-4611686018427387904≤x) && decide (x≤4611686018427387903)
def Al4 (l:List Aj):Option (List Aj):=bif Nat.blt (BF l) 4611686018427387904 && l.all (fun a=>Agj a.machine && Agj a.seq) && EC (fun a b=>a.machine == b.machine && a.seq == b.seq) l then some (KZ AlS l) else none
def ApQ (a b:As):Bool:=decide (a.driver<b.driver) || a.driver == b.driver && (decide (a.kind.n<b.kind.n) || a.kind.n == b.kind.n && decide (a.duty≤b.duty))
def AeS (l:List As):Option (List As):=bif Nat.blt (BF l) 4611686018427387904 && l.all (fun a=>Agj a.driver && Agj a.duty && (decide (0≤a.kind.n) && decide (a.kind.n≤255))) && EC (fun a b=>a.driver == b.driver && a.kind.n == b.kind.n && a.duty == b.duty) l then some (KZ ApQ l) else none
noncomputable def sortI_law (_:Nat):AH Ty:=sortL none 3 Ajv
noncomputable def sortR_law (_:Nat):AH Ty:=sortL (some 133) 93 Al4
noncomputable def sortB_law (_:Nat):AH Ty:=sortL (some 180) 280 AeS
def TW (s:ByteArray):Option (Int ⊕ Int):=if s.size≤281474976710656 then some (match Lib.atoiAll s.data.toList with
  | .ok v=>.inl v
  | .range=>.inr (Lib.atoiSat s.data.toList)
  | _=>.inr 0) else none
noncomputable def atoiS_law (_:Nat):AH Ty:=fun args n s=>match args with
  | [.str x]=>.ask (TW x) fun y=>.sum y (fun v=>.ret ⟨false,.tup [.int .i64 v,.nili],s,n⟩) (fun v=>.ret ⟨false,.tup [.int .i64 v,.ifc 317 (.ept [] 0)],s,n⟩)
  | _=>.fail
def Apv (x:Int):Option Unit:=bif decide (0≤x) && decide (x≤1000000000) then some () else none
noncomputable def growS_law (_:Nat):AH Ty:=fun args n s=>match args with
  | [.nils,.int .i64 m]=>.ask (Apv m) fun _=>.ret ⟨false,.hdr 93 n,AL.put s n (.row 93 []),n+1⟩
  | _=>.fail
end Go.Proofs.YtkpgggfibljflaaGreatDoor
