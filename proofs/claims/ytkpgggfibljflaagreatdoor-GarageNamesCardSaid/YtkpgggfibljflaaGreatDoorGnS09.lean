/- What a proof leans on: a machine that steps through code, and what functions compute. -/
import Derived.Test.YtkpgggfibljflaaGreatDoorGnS08
import Derived.Lib.AtoiAll
set_option linter.all false
namespace Go.Proofs.YtkpgggfibljflaaGreatDoor
open Go Go.RowKit Go.Proofs
open Rep (rep)
def restOk : Option Nat → List (V Ty) → Bool
  | none, [] => true
  | some f, [.fn f' [] []] => Nat.beq f' f
  | _, _ => false
noncomputable def sortL (o : Option Nat) (k : Nat) (F : List (Ty k) → Option (List (Ty k))) : Law Ty := fun args n s => match args with
  | .hdr k' i :: r => bif restOk o r then (match AL.get s i with
    | some (.row k2 l) => if h : k2 = k then bif Nat.beq k' k then .ask (F (h ▸ l)) fun l' => .ret ⟨false, .tup [], AL.put s i (.row k l'), n⟩ else .fail else .fail
    | _ => .fail) else .fail
  | _ => .fail
def insB {α : Type} (le : α → α → Bool) (x : α) : List α → List α
  | [] => [x]
  | y :: r => bif le x y then x :: y :: r else y :: insB le x r
def srtB {α : Type} (le : α → α → Bool) : List α → List α
  | [] => []
  | x :: r => insB le x (srtB le r)
def distB {α : Type} (eq : α → α → Bool) : List α → Bool
  | [] => true
  | x :: r => !r.any (eq x) && distB eq r
def srtI (l : List Int) : Option (List Int) := bif Nat.blt (lenN l) 4611686018427387904 then some (srtB (fun a b => decide (a ≤ b)) l) else none
def leR (a b : Record) : Bool := decide (a.machine < b.machine) || a.machine == b.machine && decide (a.seq ≤ b.seq)
def smI (x : Int) : Bool := decide (-4611686018427387904 ≤ x) && decide (x ≤ 4611686018427387903)
def srtR (l : List Record) : Option (List Record) := bif Nat.blt (lenN l) 4611686018427387904 && l.all (fun a => smI a.machine && smI a.seq) && distB (fun a b => a.machine == b.machine && a.seq == b.seq) l then some (srtB leR l) else none
def leB (a b : Breach) : Bool := decide (a.driver < b.driver) || a.driver == b.driver && (decide (a.kind.n < b.kind.n) || a.kind.n == b.kind.n && decide (a.duty ≤ b.duty))
def srtBr (l : List Breach) : Option (List Breach) := bif Nat.blt (lenN l) 4611686018427387904 && l.all (fun a => smI a.driver && smI a.duty && (decide (0 ≤ a.kind.n) && decide (a.kind.n ≤ 255))) && distB (fun a b => a.driver == b.driver && a.kind.n == b.kind.n && a.duty == b.duty) l then some (srtB leB l) else none
noncomputable def sortI_law (_ : Nat) : Law Ty := sortL none 3 srtI
noncomputable def sortR_law (_ : Nat) : Law Ty := sortL (some 133) 93 srtR
noncomputable def sortB_law (_ : Nat) : Law Ty := sortL (some 180) 280 srtBr
def atoiP (s : ByteArray) : Option (Int ⊕ Int) := if s.size ≤ 281474976710656 then some (match Lib.atoiAll s.data.toList with
  | .ok v => .inl v
  | .range => .inr (Lib.atoiSat s.data.toList)
  | _ => .inr 0) else none
noncomputable def atoiS_law (_ : Nat) : Law Ty := fun args n s => match args with
  | [.str x] => .ask (atoiP x) fun y => .sum y (fun v => .ret ⟨false, .tup [.int .i64 v, .nili], s, n⟩) (fun v => .ret ⟨false, .tup [.int .i64 v, .ifc 317 (.ept [] 0)], s, n⟩)
  | _ => .fail
def growO (x : Int) : Option Unit := bif decide (0 ≤ x) && decide (x ≤ 1000000000) then some () else none
noncomputable def growS_law (_ : Nat) : Law Ty := fun args n s => match args with
  | [.nils, .int .i64 m] => .ask (growO m) fun _ => .ret ⟨false, .hdr 93 n, AL.put s n (.row 93 []), n + 1⟩
  | _ => .fail
end Go.Proofs.YtkpgggfibljflaaGreatDoor
