/- What a proof leans on: a machine that steps through code, and what functions compute. -/
import Derived.Test.YtkpgggfibljflaaGreatDoorgES08
import Derived.Lib.AtoiAll
set_option linter.all false
namespace Go.Proofs.YtkpgggfibljflaaGreatDoor
open Go Go.RowKit Go.Proofs
open Rep (rep)
def Acw:Option Nat→List (V Ty)→Bool
  | none,[]=>true
  | some f,[.fn f' [] []]=>Nat.beq f' f
  | _,_=>false
noncomputable def sortL (o:Option Nat) (k:Nat) (F:List (Ty k)→Option (List (Ty k))):AE Ty:=fun args n s=>match args with
  | .hdr k' i::r=>bif Acw o r then(match AL.get s i with
    | some (.row k2 l)=>if h:k2=k then bif Nat.beq k' k then .ask (F (h▸l)) fun l'=>.ret ⟨false,.tup [],AL.put s i (.row k l'),n⟩ else .fail else .fail
    | _=>.fail) else .fail
  | _=>.fail
def Aen {α:Type} (le:α→α→Bool) (x:α):List α→List α
  | []=>[x]
  | y::r=>bif le x y then x::y::r else y::Aen le x r
def GV {α:Type} (le:α→α→Bool):List α→List α
  | []=>[]
  | x::r=>Aen le x (GV le r)
def Ek {α:Type} (eq:α→α→Bool):List α→Bool
  | []=>true
  | x::r=>!r.any (eq x) && Ek eq r
def Af0 (l:List Int):Option (List Int):=bif Nat.blt (B6 l) 4611686018427387904 then some (GV (fun a b=>decide (a≤b)) l) else none
def PS (a b:Ac):Bool:=decide (a.machine<b.machine) || a.machine == b.machine && decide (a.seq≤b.seq)
def Acx (x:Int):Bool:=decide (-4611686018427387904≤x) && decide (x≤4611686018427387903)
def Ah5 (l:List Ac):Option (List Ac):=bif Nat.blt (B6 l) 4611686018427387904 && l.all (fun a=>Acx a.machine && Acx a.seq) && Ek (fun a b=>a.machine == b.machine && a.seq == b.seq) l then some (GV PS l) else none
def Aml (a b:Av):Bool:=decide (a.driver<b.driver) || a.driver == b.driver && (decide (a.kind.n<b.kind.n) || a.kind.n == b.kind.n && decide (a.duty≤b.duty))
def Abx (l:List Av):Option (List Av):=bif Nat.blt (B6 l) 4611686018427387904 && l.all (fun a=>Acx a.driver && Acx a.duty && (decide (0≤a.kind.n) && decide (a.kind.n≤255))) && Ek (fun a b=>a.driver == b.driver && a.kind.n == b.kind.n && a.duty == b.duty) l then some (GV Aml l) else none
noncomputable def sortI_law (_:Nat):AE Ty:=sortL none 3 Af0
noncomputable def sortR_law (_:Nat):AE Ty:=sortL (some 133) 93 Ah5
noncomputable def sortB_law (_:Nat):AE Ty:=sortL (some 180) 280 Abx
def WG (s:ByteArray):Option (Int ⊕ Int):=if s.size≤281474976710656 then some (match Lib.atoiAll s.data.toList with
  | .ok v=>.inl v
  | .range=>.inr (Lib.atoiSat s.data.toList)
  | _=>.inr 0) else none
noncomputable def atoiS_law (_:Nat):AE Ty:=fun args n s=>match args with
  | [.str x]=>.ask (WG x) fun y=>.sum y (fun v=>.ret ⟨false,.tup [.int .i64 v,.nili],s,n⟩) (fun v=>.ret ⟨false,.tup [.int .i64 v,.ifc 317 (.ept [] 0)],s,n⟩)
  | _=>.fail
def AlD (x:Int):Option Unit:=bif decide (0≤x) && decide (x≤1000000000) then some () else none
noncomputable def growS_law (_:Nat):AE Ty:=fun args n s=>match args with
  | [.nils,.int .i64 m]=>.ask (AlD m) fun _=>.ret ⟨false,.hdr 93 n,AL.put s n (.row 93 []),n+1⟩
  | _=>.fail
end Go.Proofs.YtkpgggfibljflaaGreatDoor
