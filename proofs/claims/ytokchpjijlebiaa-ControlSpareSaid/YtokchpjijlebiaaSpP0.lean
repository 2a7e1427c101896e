/- What the functions compute, in plain Lean. -/
import Derived.Test.YtokchpjijlebiaaSpS4
import Derived.Test.YtokchpjijlebiaaProg
set_option linter.all false
namespace Go.Proofs.Ytokchpjijlebiaa
open Go Go.RowKit
open Rep (rep)
open KRep (kv)
open VRep (rv)
structure Rg where
  lo : Int
  hi : Int
deriving DecidableEq, Inhabited
instance : Rep Rg := Rep.via fun x => (x.lo, x.hi)
instance : VRep Rg := VRep.agg Rg
structure Bus where
  stop : Int
  tm : Rg
deriving DecidableEq, Inhabited
instance : Rep Bus := Rep.via fun x => (x.stop, x.tm)
instance : VRep Bus := VRep.agg Bus
structure Spare where
  stop : Int
  tm : Int
deriving DecidableEq, Inhabited
instance : Rep Spare := Rep.via fun x => (x.stop, x.tm)
instance : VRep Spare := VRep.agg Spare
structure Route where
  legs : List Rg
  turn : Rg
  buses : List Bus
  spares : List Spare
  unit : Int
  gap : Int
  fr : Int
  to_ : Int
deriving DecidableEq, Inhabited
instance : Rep Route := Rep.via fun x => (x.legs, x.turn, x.buses, x.spares, x.unit, x.gap, x.fr, x.to_)
instance : VRep Route := VRep.agg Route
structure Acts where
  holds : List Int
  turns : List Int
  spares : List Bool
deriving DecidableEq, Inhabited
instance : Rep Acts := Rep.via fun x => (x.holds, x.turns, x.spares)
instance : VRep Acts := VRep.agg Acts
structure Truth where
  tm : List Int
  turns : List Int
  legs : List (List Int)
deriving DecidableEq, Inhabited
instance : Rep Truth := Rep.via fun x => (x.tm, x.turns, x.legs)
instance : VRep Truth := VRep.agg Truth
structure Worked where
  route : Route
  acts : Acts
deriving DecidableEq, Inhabited
instance : Rep Worked := Rep.via fun x => (x.route, x.acts)
instance : VRep Worked := VRep.agg Worked
structure Trip where
  stop : Int
  tm : Int
  turned : Int
deriving DecidableEq, Inhabited
instance : Rep Trip := Rep.via fun x => (x.stop, x.tm, x.turned)
instance : VRep Trip := VRep.agg Trip
structure Times where
  legs : List Int
  turn : Int
deriving DecidableEq, Inhabited
instance : Rep Times := Rep.via fun x => (x.legs, x.turn)
instance : VRep Times := VRep.agg Times
def Fn1 (h : Heap) (v : Value) (f : Rg → Option Bool) : Prop := ∀ (h' : Heap) (w' : World), Heap.le h h' → Has h' w' → ∀ (x0 : Rg) (cs0 : List Value) (_ : rep h' x0 cs0) (r : Bool), f x0 = some r → CallsV Try.prog v #[.agg cs0.toArray] w' (Ret (fun h v => v = .bool r) h' w')
theorem Fn1.mono {h h' : Heap} {v : Value} {f : Rg → Option Bool} (H : Fn1 h v f) (hle : Heap.le h h') : Fn1 h' v f := fun h2 w2 l => H h2 w2 (Heap.le_trans hle l)
instance : Rep (Rg → Option Bool) := ⟨1, fun h f cs => ∃ fn first cap, cs = [.func fn first cap] ∧ Fn1 h (.func fn first cap) f, fun hle ⟨a, b, c, e, hr⟩ => ⟨a, b, c, e, hr.mono hle⟩, fun ⟨a, b, c, e, _⟩ => by subst e; rfl, fun ⟨a, b, c, e, _⟩ v hv => by subst e; simp at hv; subst hv; rfl⟩
def Fn2 (h : Heap) (v : Value) (f : Bus → Option Bool) : Prop := ∀ (h' : Heap) (w' : World), Heap.le h h' → Has h' w' → ∀ (x0 : Bus) (cs0 : List Value) (_ : rep h' x0 cs0) (r : Bool), f x0 = some r → CallsV Try.prog v #[.agg cs0.toArray] w' (Ret (fun h v => v = .bool r) h' w')
theorem Fn2.mono {h h' : Heap} {v : Value} {f : Bus → Option Bool} (H : Fn2 h v f) (hle : Heap.le h h') : Fn2 h' v f := fun h2 w2 l => H h2 w2 (Heap.le_trans hle l)
instance : Rep (Bus → Option Bool) := ⟨1, fun h f cs => ∃ fn first cap, cs = [.func fn first cap] ∧ Fn2 h (.func fn first cap) f, fun hle ⟨a, b, c, e, hr⟩ => ⟨a, b, c, e, hr.mono hle⟩, fun ⟨a, b, c, e, _⟩ => by subst e; rfl, fun ⟨a, b, c, e, _⟩ v hv => by subst e; simp at hv; subst hv; rfl⟩
def Fn3 (h : Heap) (v : Value) (f : Spare → Option Bool) : Prop := ∀ (h' : Heap) (w' : World), Heap.le h h' → Has h' w' → ∀ (x0 : Spare) (cs0 : List Value) (_ : rep h' x0 cs0) (r : Bool), f x0 = some r → CallsV Try.prog v #[.agg cs0.toArray] w' (Ret (fun h v => v = .bool r) h' w')
theorem Fn3.mono {h h' : Heap} {v : Value} {f : Spare → Option Bool} (H : Fn3 h v f) (hle : Heap.le h h') : Fn3 h' v f := fun h2 w2 l => H h2 w2 (Heap.le_trans hle l)
instance : Rep (Spare → Option Bool) := ⟨1, fun h f cs => ∃ fn first cap, cs = [.func fn first cap] ∧ Fn3 h (.func fn first cap) f, fun hle ⟨a, b, c, e, hr⟩ => ⟨a, b, c, e, hr.mono hle⟩, fun ⟨a, b, c, e, _⟩ => by subst e; rfl, fun ⟨a, b, c, e, _⟩ v hv => by subst e; simp at hv; subst hv; rfl⟩
def Fn4 (h : Heap) (v : Value) (f : Rg → Option Int) : Prop := ∀ (h' : Heap) (w' : World), Heap.le h h' → Has h' w' → ∀ (x0 : Rg) (cs0 : List Value) (_ : rep h' x0 cs0) (r : Int), f x0 = some r → CallsV Try.prog v #[.agg cs0.toArray] w' (Ret (fun h v => v = .int .i64 r) h' w')
theorem Fn4.mono {h h' : Heap} {v : Value} {f : Rg → Option Int} (H : Fn4 h v f) (hle : Heap.le h h') : Fn4 h' v f := fun h2 w2 l => H h2 w2 (Heap.le_trans hle l)
instance : Rep (Rg → Option Int) := ⟨1, fun h f cs => ∃ fn first cap, cs = [.func fn first cap] ∧ Fn4 h (.func fn first cap) f, fun hle ⟨a, b, c, e, hr⟩ => ⟨a, b, c, e, hr.mono hle⟩, fun ⟨a, b, c, e, _⟩ => by subst e; rfl, fun ⟨a, b, c, e, _⟩ v hv => by subst e; simp at hv; subst hv; rfl⟩
structure End where
  of_ : Rg → Option Int
instance : Rep End := Rep.via fun x => (x.of_)
instance : VRep End := VRep.agg End
structure A4int where
  a0 : Int
  a1 : Int
  a2 : Int
  a3 : Int
deriving DecidableEq, Inhabited
instance : Rep A4int := Rep.via fun x => (x.a0, x.a1, x.a2, x.a3)
instance : VRep A4int := VRep.agg A4int
def A4int.toL (x : A4int) : List Int := [x.a0, x.a1, x.a2, x.a3]
def A4int.ofL : List Int → Option A4int
  | [a0, a1, a2, a3] => some ⟨a0, a1, a2, a3⟩
  | _ => none
theorem A4int.ofL_some {l : List Int} {y : A4int} (h : A4int.ofL l = some y) : y.toL = l := by
  unfold A4int.ofL at h
  split at h
  · cases h; rfl
  · cases h
def A4int.setI (x : A4int) (i : Int) (v : Int) : Option A4int := (upd x.toL i v).bind A4int.ofL
theorem A4int.setI_some {x y : A4int} {i : Int} {v : Int} (h : x.setI i v = some y) : 0 ≤ i ∧ i < 4 ∧ y.toL = x.toL.set i.toNat v := by
  obtain ⟨l, hl, h2⟩ := bnd h
  obtain ⟨h0, h1, rfl⟩ := upd_some hl
  exact ⟨h0, h1, A4int.ofL_some h2⟩
structure A2bool where
  a0 : Bool
  a1 : Bool
deriving DecidableEq, Inhabited
instance : Rep A2bool := Rep.via fun x => (x.a0, x.a1)
instance : VRep A2bool := VRep.agg A2bool
def A2bool.toL (x : A2bool) : List Bool := [x.a0, x.a1]
def A2bool.ofL : List Bool → Option A2bool
  | [a0, a1] => some ⟨a0, a1⟩
  | _ => none
theorem A2bool.ofL_some {l : List Bool} {y : A2bool} (h : A2bool.ofL l = some y) : y.toL = l := by
  unfold A2bool.ofL at h
  split at h
  · cases h; rfl
  · cases h
def A2bool.setI (x : A2bool) (i : Int) (v : Bool) : Option A2bool := (upd x.toL i v).bind A2bool.ofL
theorem A2bool.setI_some {x y : A2bool} {i : Int} {v : Bool} (h : x.setI i v = some y) : 0 ≤ i ∧ i < 2 ∧ y.toL = x.toL.set i.toNat v := by
  obtain ⟨l, hl, h2⟩ := bnd h
  obtain ⟨h0, h1, rfl⟩ := upd_some hl
  exact ⟨h0, h1, A2bool.ofL_some h2⟩
structure Deeds where
  holds : A4int
  turns : A4int
  spares : A2bool
deriving DecidableEq, Inhabited
instance : Rep Deeds := Rep.via fun x => (x.holds, x.turns, x.spares)
instance : VRep Deeds := VRep.agg Deeds
structure Wait where
  fr : Int
  long : Int
deriving DecidableEq, Inhabited
instance : Rep Wait := Rep.via fun x => (x.fr, x.long)
instance : VRep Wait := VRep.agg Wait
def Fn5 (h : Heap) (v : Value) (f : Int → Option Bool) : Prop := ∀ (h' : Heap) (w' : World), Heap.le h h' → Has h' w' → ∀ (x0 : Int) (r : Bool), f x0 = some r → CallsV Try.prog v #[.int .i64 x0] w' (Ret (fun h v => v = .bool r) h' w')
theorem Fn5.mono {h h' : Heap} {v : Value} {f : Int → Option Bool} (H : Fn5 h v f) (hle : Heap.le h h') : Fn5 h' v f := fun h2 w2 l => H h2 w2 (Heap.le_trans hle l)
instance : Rep (Int → Option Bool) := ⟨1, fun h f cs => ∃ fn first cap, cs = [.func fn first cap] ∧ Fn5 h (.func fn first cap) f, fun hle ⟨a, b, c, e, hr⟩ => ⟨a, b, c, e, hr.mono hle⟩, fun ⟨a, b, c, e, _⟩ => by subst e; rfl, fun ⟨a, b, c, e, _⟩ v hv => by subst e; simp at hv; subst hv; rfl⟩
structure Cost where
  number : Int
  sum : Int
deriving DecidableEq, Inhabited
instance : Rep Cost := Rep.via fun x => (x.number, x.sum)
instance : VRep Cost := VRep.agg Cost
def See1 {σ : Type} (XS : σ → Fr → Heap → Prop) (B : Nat → Prop) (v : Value) (f : σ → Deeds → Cost → Option σ) : Prop := ∀ (s : σ) (F : Fr) (h : Heap) (w : World) (x0 : Deeds) (cs0 : List Value) (_ : rep h x0 cs0) (x1 : Cost) (cs1 : List Value) (_ : rep h x1 cs1) (s' : σ), XS s F h → Mem F h [] [] [] w → f s x0 x1 = some s' → CallsV Try.prog v #[.agg cs0.toArray, .agg cs1.toArray] w (SRet XS B F h s')
instance : KRep Deeds := ⟨fun x => .agg #[.int .i64 x.holds.a0, .int .i64 x.holds.a1, .int .i64 x.holds.a2, .int .i64 x.holds.a3, .int .i64 x.turns.a0, .int .i64 x.turns.a1, .int .i64 x.turns.a2, .int .i64 x.turns.a3, .bool x.spares.a0, .bool x.spares.a1], fun {a b} h => by
  rcases a with ⟨⟨a0, a1, a2, a3⟩, ⟨a4, a5, a6, a7⟩, ⟨a8, a9⟩⟩
  rcases b with ⟨⟨b0, b1, b2, b3⟩, ⟨b4, b5, b6, b7⟩, ⟨b8, b9⟩⟩
  simp_all⟩
def ref_In (n : Nat) (n_ : Int) (low : Int) (high : Int) : Option Bool :=
  (bif decide (n_ ≥ low) then
  some (decide (n_ ≤ high))
  else
  some false)
def ref_Stops (n : Nat) (r_ : Route) : Option Int :=
  some (IntKind.i64.wrap (((r_.legs.length : Nat) : Int) + 1))
def ref_Places (n : Nat) (r_ : Route) : Option Int :=
  some (IntKind.i64.wrap (Int.tdiv (IntKind.i64.wrap (((r_.legs.length : Nat) : Int) + 1)) 2))
def ref_span (n : Nat) (r_ : Rg) (most : Int) : Option Bool :=
  ((ref_In n r_.lo 0 r_.hi).bind fun x9 =>
  (bif x9 then
  some (decide (r_.hi ≤ most))
  else
  some false))
def law_to (n : Nat) (r_ : Rg) : Option Rg :=
  some r_
def ref_Fault_l1 : Nat → Route → Int → Option (Ex Int Unit)
  | 0, _, _ => none
  | n + 1, r_, x_v10 =>
    (bif decide (x_v10 < ((r_.legs.length : Nat) : Int)) then
    ((idx r_.legs x_v10).bind fun x68 =>
    ((ref_span n x68 300).bind fun x70 =>
    (bif (!x70) then
    some (Ex.ret 1)
    else
    ref_Fault_l1 n r_ (IntKind.i64.wrap (x_v10 + 1)))))
    else
    some (Ex.go ()))
def ref_Fault_l2 : Nat → Route → Int → Option (Ex Int Unit)
  | 0, _, _ => none
  | n + 1, r_, x_v20 =>
    (bif decide (x_v20 < ((r_.buses.length : Nat) : Int)) then
    ((idx r_.buses x_v20).bind fun x82 =>
    ((ref_Stops n r_).bind fun x86 =>
    ((ref_In n x82.stop 0 (IntKind.i64.wrap (x86 - 1))).bind fun x88 =>
    (bif (!x88) then
    some (Ex.ret 1)
    else
    ((idx r_.buses x_v20).bind fun x94 =>
    ((ref_span n x94.tm 2000).bind fun x97 =>
    (bif (!x97) then
    some (Ex.ret 1)
    else
    ref_Fault_l2 n r_ (IntKind.i64.wrap (x_v20 + 1)))))))))
    else
    some (Ex.go ()))
def ref_Fault_l3 : Nat → Route → Int → Option (Ex Int Unit)
  | 0, _, _ => none
  | n + 1, r_, x_v30 =>
    (bif decide (x_v30 < ((r_.spares.length : Nat) : Int)) then
    ((idx r_.spares x_v30).bind fun x110 =>
    ((ref_Stops n r_).bind fun x114 =>
    ((ref_In n x110.stop 0 (IntKind.i64.wrap (x114 - 1))).bind fun x116 =>
    (bif (!x116) then
    some (Ex.ret 1)
    else
    ((idx r_.spares x_v30).bind fun x122 =>
    ((ref_In n x122.tm 0 2000).bind fun x125 =>
    (bif (!x125) then
    some (Ex.ret 1)
    else
    ref_Fault_l3 n r_ (IntKind.i64.wrap (x_v30 + 1)))))))))
    else
    some (Ex.go ()))
def ref_Fault (n : Nat) (r_ : Route) : Option Int :=
  (((bif decide (((r_.buses.length : Nat) : Int) > 4) then
  some true
  else
  some (decide (((r_.spares.length : Nat) : Int) > 2))) : Option Bool).bind fun o_17 =>
  (bif o_17 then
  some 3
  else
  (((bif ((Int.tmod ((r_.legs.length : Nat) : Int) 2) == 0) then
  some true
  else
  (bif decide (((r_.legs.length : Nat) : Int) > 7) then
  some true
  else
  ((ref_span n r_.turn 300).bind fun x30 =>
  (bif (!x30) then
  some true
  else
  ((ref_In n r_.unit 1 30).bind fun x36 =>
  (bif (!x36) then
  some true
  else
  ((ref_In n r_.gap 0 2000).bind fun x42 =>
  (bif (!x42) then
  some true
  else
  ((ref_In n r_.fr 0 r_.to_).bind fun x50 =>
  (bif (!x50) then
  some true
  else
  some (decide (r_.to_ > 2000)))))))))))) : Option Bool).bind fun o_36 =>
  (bif o_36 then
  some 1
  else
  ((ref_Fault_l1 n r_ 0).bind fun o_133 => Ex.bind o_133 (fun r => some r) fun s_134 =>
  ((ref_Fault_l2 n r_ 0).bind fun o_188 => Ex.bind o_188 (fun r => some r) fun s_189 =>
  ((ref_Fault_l3 n r_ 0).bind fun o_286 => Ex.bind o_286 (fun r => some r) fun s_287 =>
  some 0)))))))
def law_Thin (n : Nat) (r_ : Route) : Option Bool :=
  (bif decide (((r_.legs.length : Nat) : Int) ≤ 10) then
  (bif decide (((r_.buses.length : Nat) : Int) ≤ 6) then
  some (decide (((r_.spares.length : Nat) : Int) ≤ 4))
  else
  some false)
  else
  some false)
def law_ints_l1 : Nat → (List Int) → (List Int) → Int → Option (Ex Bool Unit)
  | 0, _, _, _ => none
  | n + 1, a, b, x_v10 =>
    (bif decide (x_v10 < ((a.length : Nat) : Int)) then
    ((idx a x_v10).bind fun x19 =>
    ((idx b x_v10).bind fun x23 =>
    (bif (x19 != x23) then
    some (Ex.ret false)
    else
    law_ints_l1 n a b (IntKind.i64.wrap (x_v10 + 1)))))
    else
    some (Ex.go ()))
def law_ints (n : Nat) (a : List Int) (b : List Int) : Option Bool :=
  (bif (((a.length : Nat) : Int) != ((b.length : Nat) : Int)) then
  some false
  else
  ((law_ints_l1 n a b 0).bind fun o_11 => Ex.bind o_11 (fun r => some r) fun s_12 =>
  some true))
def law_list (n : Nat) (l : List Int) : Option (List Int) :=
  ((app ([] : List Int) l).bind fun x4 =>
  some x4)
def law_Acts (n : Nat) (a : Acts) : Option Acts :=
  ((law_list n a.holds).bind fun x5 =>
  ((law_list n a.turns).bind fun x8 =>
  ((app ([] : List Bool) a.spares).bind fun x11 =>
  some (Acts.mk x5 x8 x11))))
def law_acts_l1 : Nat → Acts → Acts → Int → Option (Ex Bool Unit)
  | 0, _, _, _ => none
  | n + 1, a, b, x_v10 =>
    (bif decide (x_v10 < ((a.spares.length : Nat) : Int)) then
    ((idx a.spares x_v10).bind fun x39 =>
    ((idx b.spares x_v10).bind fun x44 =>
    (bif (!(x39 == x44)) then
    some (Ex.ret false)
    else
    law_acts_l1 n a b (IntKind.i64.wrap (x_v10 + 1)))))
    else
    some (Ex.go ()))
def law_acts (n : Nat) (a : Acts) (b : Acts) : Option Bool :=
  ((((law_ints n a.holds b.holds).bind fun x10 =>
  (bif (!x10) then
  some true
  else
  ((law_ints n a.turns b.turns).bind fun x17 =>
  (bif (!x17) then
  some true
  else
  some (((a.spares.length : Nat) : Int) != ((b.spares.length : Nat) : Int)))))) : Option Bool).bind fun o_31 =>
  (bif o_31 then
  some false
  else
  ((law_acts_l1 n a b 0).bind fun o_80 => Ex.bind o_80 (fun r => some r) fun s_81 =>
  some true)))
def ref_AreActs_l1 : Nat → Route → Acts → Int → Option (Ex Bool Unit)
  | 0, _, _, _ => none
  | n + 1, r_, a, x_v10 =>
    (bif decide (x_v10 < ((r_.buses.length : Nat) : Int)) then
    ((idx a.holds x_v10).bind fun x41 =>
    ((ref_In n x41 0 2).bind fun x43 =>
    (bif (!x43) then
    some (Ex.ret false)
    else
    ((idx a.turns x_v10).bind fun x49 =>
    (bif (x49 != (-1)) then
    ((idx a.turns x_v10).bind fun x56 =>
    ((idx r_.buses x_v10).bind fun x61 =>
    ((ref_Places n r_).bind fun x65 =>
    ((ref_In n x56 x61.stop (IntKind.i64.wrap (x65 - 2))).bind fun x67 =>
    (bif (!x67) then
    some (Ex.ret false)
    else
    ref_AreActs_l1 n r_ a (IntKind.i64.wrap (x_v10 + 1)))))))
    else
    ref_AreActs_l1 n r_ a (IntKind.i64.wrap (x_v10 + 1)))))))
    else
    some (Ex.go ()))
def ref_AreActs (n : Nat) (r_ : Route) (a : Acts) : Option Bool :=
  (((bif (((a.holds.length : Nat) : Int) != ((r_.buses.length : Nat) : Int)) then
  some true
  else
  (bif (((a.turns.length : Nat) : Int) != ((r_.buses.length : Nat) : Int)) then
  some true
  else
  some (((a.spares.length : Nat) : Int) != ((r_.spares.length : Nat) : Int)))) : Option Bool).bind fun o_31 =>
  (bif o_31 then
  some false
  else
  ((ref_AreActs_l1 n r_ a 0).bind fun o_60 => Ex.bind o_60 (fun r => some r) fun s_61 =>
  some true)))
def law_line (n : Nat)  : Option Route :=
  some (Route.mk ([(Rg.mk 10 10), (Rg.mk 5 15), (Rg.mk 10 12)] : List Rg) (Rg.mk 0 4) ([(Bus.mk 0 (Rg.mk 0 0)), (Bus.mk 0 (Rg.mk 10 20))] : List Bus) ([(Spare.mk 2 40)] : List Spare) 5 37 0 50)
def law_free (n : Nat)  : Option Acts :=
  some (Acts.mk ([0, 0] : List Int) ([(-1), (-1)] : List Int) ([false] : List Bool))
def law_held (n : Nat)  : Option Acts :=
  some (Acts.mk ([0, 1] : List Int) ([(-1), (-1)] : List Int) ([false] : List Bool))
def law_Route_l1 : Nat → Route → (List Rg) → Int → Option (List Rg)
  | 0, _, _, _ => none
  | n + 1, r_, x_v10, x_v11 =>
    (bif decide (x_v11 < ((r_.legs.length : Nat) : Int)) then
    ((idx r_.legs x_v11).bind fun x31 =>
    ((law_to n x31).bind fun x33 =>
    ((app x_v10 ([x33] : List Rg)).bind fun x35 =>
    law_Route_l1 n r_ x35 (IntKind.i64.wrap (x_v11 + 1)))))
    else
    some x_v10)
def law_Route_l2 : Nat → Route → (List Bus) → Int → Option (List Bus)
  | 0, _, _, _ => none
  | n + 1, r_, x_v20, x_v21 =>
    (bif decide (x_v21 < ((r_.buses.length : Nat) : Int)) then
    ((idx r_.buses x_v21).bind fun x49 =>
    ((idx r_.buses x_v21).bind fun x55 =>
    ((law_to n x55.tm).bind fun x58 =>
    ((app x_v20 ([(Bus.mk x49.stop x58)] : List Bus)).bind fun x61 =>
    law_Route_l2 n r_ x61 (IntKind.i64.wrap (x_v21 + 1))))))
    else
    some x_v20)
def law_Route_l3 : Nat → Route → (List Spare) → Int → Option (List Spare)
  | 0, _, _, _ => none
  | n + 1, r_, x_v30, x_v31 =>
    (bif decide (x_v31 < ((r_.spares.length : Nat) : Int)) then
    ((idx r_.spares x_v31).bind fun x75 =>
    ((idx r_.spares x_v31).bind fun x81 =>
    ((app x_v30 ([(Spare.mk x75.stop x81.tm)] : List Spare)).bind fun x86 =>
    law_Route_l3 n r_ x86 (IntKind.i64.wrap (x_v31 + 1)))))
    else
    some x_v30)
def law_Route (n : Nat) (r_ : Route) : Option Route :=
  ((law_to n r_.turn).bind fun x9 =>
  ((law_Route_l1 n r_ ([] : List Rg) 0).bind fun o_50 =>
  ((law_Route_l2 n r_ ([] : List Bus) 0).bind fun o_133 =>
  ((law_Route_l3 n r_ ([] : List Spare) 0).bind fun o_232 =>
  some (Route.mk o_50 x9 o_133 o_232 r_.unit r_.gap r_.fr r_.to_)))))
def law_short_l1 : Nat → Truth → Int → Option (Ex Bool Unit)
  | 0, _, _ => none
  | n + 1, t_, x_v10 =>
    (((bif decide (x_v10 < ((t_.legs.length : Nat) : Int)) then
    some (decide (x_v10 < 9))
    else
    some false) : Option Bool).bind fun o_48 =>
    (bif o_48 then
    ((idx t_.legs x_v10).bind fun x20 =>
    (bif decide (((x20.length : Nat) : Int) > 10) then
    some (Ex.ret false)
    else
    law_short_l1 n t_ (IntKind.i64.wrap (x_v10 + 1))))
    else
    some (Ex.go ())))
def law_short (n : Nat) (a : Acts) (t_ : Truth) : Option Bool :=
  ((law_short_l1 n t_ 0).bind fun o_34 => Ex.bind o_34 (fun r => some r) fun s_35 =>
  (bif decide (((a.holds.length : Nat) : Int) ≤ 8) then
  (bif decide (((a.turns.length : Nat) : Int) ≤ 8) then
  (bif decide (((a.spares.length : Nat) : Int) ≤ 8) then
  (bif decide (((t_.tm.length : Nat) : Int) ≤ 8) then
  (bif decide (((t_.turns.length : Nat) : Int) ≤ 8) then
  some (decide (((t_.legs.length : Nat) : Int) ≤ 8))
  else
  some false)
  else
  some false)
  else
  some false)
  else
  some false)
  else
  some false))
def law_fault (n : Nat) (r_ : Route) (a : Acts) : Option Int :=
  ((ref_Fault n r_).bind fun x7 =>
  (bif (x7 != 0) then
  some x7
  else
  ((ref_AreActs n r_ a).bind fun x13 =>
  (bif (!x13) then
  some 2
  else
  some 0))))
def law_ready (n : Nat) (r_ : Route) (a : Acts) : Option Bool :=
  ((law_Thin n r_).bind fun x6 =>
  (bif x6 then
  ((law_short n a (Truth.mk ([] : List Int) ([] : List Int) ([] : List (List Int)))).bind fun x10 =>
  (bif x10 then
  ((law_fault n r_ a).bind fun x15 =>
  some (x15 == 0))
  else
  some false))
  else
  some false))
def control_within (n : Nat) (n_ : Int) (low : Int) (high : Int) : Option Bool :=
  (bif decide (low ≤ n_) then
  some (decide (n_ ≤ high))
  else
  some false)
def control_minute (n : Nat) (n_ : Int) : Option Bool :=
  ((control_within n n_ 0 2000).bind fun x4 =>
  some x4)
def control_Route_stops (n : Nat) (r_ : Route) : Option Int :=
  some (IntKind.i64.wrap (((r_.legs.length : Nat) : Int) + 1))
def control_Route_places (n : Nat) (r_ : Route) : Option Int :=
  ((control_Route_stops n r_).bind fun x4 =>
  some (IntKind.i64.wrap (Int.tdiv x4 2)))
def control_Route_stop (n : Nat) (r_ : Route) (n_ : Int) : Option Bool :=
  ((control_Route_stops n r_).bind fun x7 =>
  ((control_within n n_ 0 (IntKind.i64.wrap (x7 - 1))).bind fun x9 =>
  some x9))
def control_Range_upto (n : Nat) (r_ : Rg) (most : Int) : Option Bool :=
  (bif decide (0 ≤ r_.lo) then
  (bif decide (r_.lo ≤ r_.hi) then
  some (decide (r_.hi ≤ most))
  else
  some false)
  else
  some false)
def control_Range_takes (n : Nat) (r_ : Rg) : Option Bool :=
  ((control_Range_upto n r_ 300).bind fun x4 =>
  some x4)
def control_Range_low (n : Nat) (r_ : Rg) : Option Int :=
  some r_.lo
def control_Range_high (n : Nat) (r_ : Rg) : Option Int :=
  some r_.hi
def control_Route_looked (n : Nat) (r_ : Route) (n_ : Int) : Option Bool :=
  ((control_within n n_ r_.fr r_.to_).bind fun x10 =>
  some x10)
def control_Route_turns (n : Nat) (r_ : Route) (b : Bus) (at_ : Int) : Option Bool :=
  (bif (at_ == (-1)) then
  some true
  else
  ((control_Route_places n r_).bind fun x14 =>
  ((control_within n at_ b.stop (IntKind.i64.wrap (x14 - 2))).bind fun x16 =>
  some x16)))
def control_worked_trips_l1 : Nat → Worked → Truth → (List Trip) → (List Times) → Int → Option ((List Trip) × (List Times))
  | 0, _, _, _, _, _ => none
  | n + 1, w_, t_, x_v10, x_v11, x_v12 =>
    (bif decide (x_v12 < ((w_.route.buses.length : Nat) : Int)) then
    ((idx w_.route.buses x_v12).bind fun x17 =>
    ((idx t_.tm x_v12).bind fun x25 =>
    ((idx w_.acts.holds x_v12).bind fun x31 =>
    ((idx w_.acts.turns x_v12).bind fun x42 =>
    ((app x_v10 ([(Trip.mk x17.stop (IntKind.i64.wrap (x25 + (IntKind.i64.wrap (x31 * w_.route.unit)))) x42)] : List Trip)).bind fun x46 =>
    ((idx t_.legs x_v12).bind fun x51 =>
    ((idx t_.turns x_v12).bind fun x56 =>
    ((app x_v11 ([(Times.mk x51 x56)] : List Times)).bind fun x60 =>
    control_worked_trips_l1 n w_ t_ x46 x60 (IntKind.i64.wrap (x_v12 + 1))))))))))
    else
    some (x_v10, x_v11))
def control_worked_trips_l2 : Nat → Worked → Truth → (List Trip) → (List Times) → Int → Option ((List Trip) × (List Times))
  | 0, _, _, _, _, _ => none
  | n + 1, w_, t_, x_v20, x_v21, x_v22 =>
    (bif decide (x_v22 < ((w_.route.spares.length : Nat) : Int)) then
    ((idx w_.route.spares x_v22).bind fun x69 =>
    ((idx w_.acts.spares x_v22).bind fun x75 =>
    (bif x75 then
    ((app x_v20 ([(Trip.mk x69.stop x69.tm (-1))] : List Trip)).bind fun x84 =>
    ((idx t_.legs (IntKind.i64.wrap (((w_.route.buses.length : Nat) : Int) + x_v22))).bind fun x94 =>
    ((app x_v21 ([(Times.mk x94 0)] : List Times)).bind fun x98 =>
    control_worked_trips_l2 n w_ t_ x84 x98 (IntKind.i64.wrap (x_v22 + 1)))))
    else
    control_worked_trips_l2 n w_ t_ x_v20 x_v21 (IntKind.i64.wrap (x_v22 + 1)))))
    else
    some (x_v20, x_v21))
def control_worked_trips (n : Nat) (w_ : Worked) (t_ : Truth) : Option ((List Trip) × (List Times)) :=
  ((control_worked_trips_l1 n w_ t_ ([] : List Trip) ([] : List Times) 0).bind fun o_63 =>
  ((control_worked_trips_l2 n w_ t_ o_63.1 o_63.2 0).bind fun o_248 =>
  some (o_248.1, o_248.2)))
def control_Route_check_1 (n : Nat) (b : Bus) (q0 : Route) : Option Bool :=
  ((control_Route_stop n q0 b.stop).bind fun x7 =>
  (bif x7 then
  ((control_Range_upto n b.tm 2000).bind fun x11 =>
  some x11)
  else
  some false))
def control_Route_check_2 (n : Nat) (s : Spare) (q0 : Route) : Option Bool :=
  ((control_Route_stop n q0 s.stop).bind fun x7 =>
  (bif x7 then
  ((control_minute n s.tm).bind fun x11 =>
  some x11)
  else
  some false))
def slices_IndexFunc_control_Range_control_Range_l1 : Nat → (List Rg) → (Rg → Option Bool) → Int → Option (Ex Int Unit)
  | 0, _, _, _ => none
  | n + 1, s, f, x_v10 =>
    (bif decide (x_v10 < ((s.length : Nat) : Int)) then
    ((idx s x_v10).bind fun x14 =>
    ((f x14).bind fun x16 =>
    (bif x16 then
    some (Ex.ret x_v10)
    else
    slices_IndexFunc_control_Range_control_Range_l1 n s f (IntKind.i64.wrap (x_v10 + 1)))))
    else
    some (Ex.go ()))
def slices_IndexFunc_control_Range_control_Range (n : Nat) (s : List Rg) (f : Rg → Option Bool) : Option Int :=
  ((slices_IndexFunc_control_Range_control_Range_l1 n s f 0).bind fun o_6 => Ex.bind o_6 (fun r => some r) fun s_7 =>
  some (-1))
def slices_IndexFunc_control_Bus_control_Bus_l1 : Nat → (List Bus) → (Bus → Option Bool) → Int → Option (Ex Int Unit)
  | 0, _, _, _ => none
  | n + 1, s, f, x_v10 =>
    (bif decide (x_v10 < ((s.length : Nat) : Int)) then
    ((idx s x_v10).bind fun x14 =>
    ((f x14).bind fun x16 =>
    (bif x16 then
    some (Ex.ret x_v10)
    else
    slices_IndexFunc_control_Bus_control_Bus_l1 n s f (IntKind.i64.wrap (x_v10 + 1)))))
    else
    some (Ex.go ()))
def slices_IndexFunc_control_Bus_control_Bus (n : Nat) (s : List Bus) (f : Bus → Option Bool) : Option Int :=
  ((slices_IndexFunc_control_Bus_control_Bus_l1 n s f 0).bind fun o_6 => Ex.bind o_6 (fun r => some r) fun s_7 =>
  some (-1))
def slices_IndexFunc_control_Spare_control_Spare_l1 : Nat → (List Spare) → (Spare → Option Bool) → Int → Option (Ex Int Unit)
  | 0, _, _, _ => none
  | n + 1, s, f, x_v10 =>
    (bif decide (x_v10 < ((s.length : Nat) : Int)) then
    ((idx s x_v10).bind fun x14 =>
    ((f x14).bind fun x16 =>
    (bif x16 then
    some (Ex.ret x_v10)
    else
    slices_IndexFunc_control_Spare_control_Spare_l1 n s f (IntKind.i64.wrap (x_v10 + 1)))))
    else
    some (Ex.go ()))
def slices_IndexFunc_control_Spare_control_Spare (n : Nat) (s : List Spare) (f : Spare → Option Bool) : Option Int :=
  ((slices_IndexFunc_control_Spare_control_Spare_l1 n s f 0).bind fun o_6 => Ex.bind o_6 (fun r => some r) fun s_7 =>
  some (-1))
def slices_ContainsFunc_control_Range_control_Range (n : Nat) (s : List Rg) (f : Rg → Option Bool) : Option Bool :=
  ((slices_IndexFunc_control_Range_control_Range n s f).bind fun x7 =>
  some (decide (x7 ≥ 0)))
def slices_ContainsFunc_control_Bus_control_Bus (n : Nat) (s : List Bus) (f : Bus → Option Bool) : Option Bool :=
  ((slices_IndexFunc_control_Bus_control_Bus n s f).bind fun x7 =>
  some (decide (x7 ≥ 0)))
def slices_ContainsFunc_control_Spare_control_Spare (n : Nat) (s : List Spare) (f : Spare → Option Bool) : Option Bool :=
  ((slices_IndexFunc_control_Spare_control_Spare n s f).bind fun x7 =>
  some (decide (x7 ≥ 0)))
def control_all_control_Range_1 (n : Nat) (x : Rg) (q0 : Rg → Option Bool) : Option Bool :=
  ((q0 x).bind fun x6 =>
  some (!x6))
def control_all_control_Bus_1 (n : Nat) (x : Bus) (q0 : Bus → Option Bool) : Option Bool :=
  ((q0 x).bind fun x6 =>
  some (!x6))
def control_all_control_Spare_1 (n : Nat) (x : Spare) (q0 : Spare → Option Bool) : Option Bool :=
  ((q0 x).bind fun x6 =>
  some (!x6))
def control_all_control_Range (n : Nat) (l : List Rg) (right : Rg → Option Bool) : Option Bool :=
  ((slices_ContainsFunc_control_Range_control_Range n l (fun (y0 : Rg) => control_all_control_Range_1 n y0 right)).bind fun x7 =>
  some (!x7))
def control_all_control_Bus (n : Nat) (l : List Bus) (right : Bus → Option Bool) : Option Bool :=
  ((slices_ContainsFunc_control_Bus_control_Bus n l (fun (y0 : Bus) => control_all_control_Bus_1 n y0 right)).bind fun x7 =>
  some (!x7))
def control_all_control_Spare (n : Nat) (l : List Spare) (right : Spare → Option Bool) : Option Bool :=
  ((slices_ContainsFunc_control_Spare_control_Spare n l (fun (y0 : Spare) => control_all_control_Spare_1 n y0 right)).bind fun x7 =>
  some (!x7))
def control_Route_check (n : Nat) (r_ : Route) : Option Int :=
  (((bif decide (((r_.buses.length : Nat) : Int) > 4) then
  some true
  else
  some (decide (((r_.spares.length : Nat) : Int) > 2))) : Option Bool).bind fun o_31 =>
  (bif o_31 then
  some 3
  else
  (((bif ((Int.tmod ((r_.legs.length : Nat) : Int) 2) == 0) then
  some true
  else
  ((control_Route_places n r_).bind fun x26 =>
  (bif decide (x26 > 4) then
  some true
  else
  ((control_all_control_Range n r_.legs (fun (y0 : Rg) => control_Range_takes n y0)).bind fun x32 =>
  (bif (!x32) then
  some true
  else
  ((control_Range_takes n r_.turn).bind fun x38 =>
  (bif (!x38) then
  some true
  else
  ((control_all_control_Bus n r_.buses (fun (y0 : Bus) => control_Route_check_1 n y0 r_)).bind fun x45 =>
  (bif (!x45) then
  some true
  else
  ((control_all_control_Spare n r_.spares (fun (y0 : Spare) => control_Route_check_2 n y0 r_)).bind fun x52 =>
  some (!x52))))))))))) : Option Bool).bind fun o_50 =>
  (bif o_50 then
  some 1
  else
  ((control_within n r_.unit 1 30).bind fun x58 =>
  (bif (!x58) then
  some 1
  else
  ((control_minute n r_.gap).bind fun x63 =>
  (bif (!x63) then
  some 1
  else
  ((control_minute n r_.fr).bind fun x69 =>
  (bif (!x69) then
  some 1
  else
  ((control_minute n r_.to_).bind fun x75 =>
  (bif (!x75) then
  some 1
  else
  (bif decide (r_.fr > r_.to_) then
  some 1
  else
  some 0)))))))))))))
def control_Route_acts_l1 : Nat → Route → Acts → Int → Option (Ex Int Unit)
  | 0, _, _, _ => none
  | n + 1, r_, a, x_v10 =>
    (bif decide (x_v10 < ((r_.buses.length : Nat) : Int)) then
    ((idx r_.buses x_v10).bind fun x44 =>
    ((idx a.holds x_v10).bind fun x49 =>
    ((control_within n x49 0 2).bind fun x51 =>
    (bif (!x51) then
    some (Ex.ret 2)
    else
    ((idx a.turns x_v10).bind fun x59 =>
    ((control_Route_turns n r_ x44 x59).bind fun x61 =>
    (bif (!x61) then
    some (Ex.ret 2)
    else
    control_Route_acts_l1 n r_ a (IntKind.i64.wrap (x_v10 + 1)))))))))
    else
    some (Ex.go ()))
def control_Route_acts (n : Nat) (r_ : Route) (a : Acts) : Option Int :=
  ((control_Route_check n r_).bind fun x9 =>
  (bif (x9 != 0) then
  some x9
  else
  (((bif (((a.holds.length : Nat) : Int) != ((r_.buses.length : Nat) : Int)) then
  some true
  else
  (bif (((a.turns.length : Nat) : Int) != ((r_.buses.length : Nat) : Int)) then
  some true
  else
  some (((a.spares.length : Nat) : Int) != ((r_.spares.length : Nat) : Int)))) : Option Bool).bind fun o_48 =>
  (bif o_48 then
  some 2
  else
  ((control_Route_acts_l1 n r_ a 0).bind fun o_77 => Ex.bind o_77 (fun r => some r) fun s_78 =>
  some 0)))))
def slices_Clone_int_int (n : Nat) (s : List Int) : Option (List Int) :=
  ((app ([] : List Int) s).bind fun x7 =>
  some x7)
def slices_Clone_bool_bool (n : Nat) (s : List Bool) : Option (List Bool) :=
  ((app ([] : List Bool) s).bind fun x7 =>
  some x7)
def slices_Max_int_int_l1 : Nat → (List Int) → Int → Int → Option Int
  | 0, _, _, _ => none
  | n + 1, x, x_v10, x_v11 =>
    (bif decide (x_v10 < ((x.length : Nat) : Int)) then
    ((idx x x_v10).bind fun x21 =>
    slices_Max_int_int_l1 n x (IntKind.i64.wrap (x_v10 + 1)) (if x21 > x_v11 then x21 else x_v11))
    else
    some x_v11)
def slices_Max_int_int (n : Nat) (x : List Int) : Option Int :=
  (bif decide (((x.length : Nat) : Int) < 1) then
  none
  else
  ((idx x 0).bind fun x10 =>
  ((slices_Max_int_int_l1 n x 1 x10).bind fun o_25 =>
  some o_25)))
def slices_Min_int_int_l1 : Nat → (List Int) → Int → Int → Option Int
  | 0, _, _, _ => none
  | n + 1, x, x_v10, x_v11 =>
    (bif decide (x_v10 < ((x.length : Nat) : Int)) then
    ((idx x x_v10).bind fun x21 =>
    slices_Min_int_int_l1 n x (IntKind.i64.wrap (x_v10 + 1)) (if x21 < x_v11 then x21 else x_v11))
    else
    some x_v11)
def slices_Min_int_int (n : Nat) (x : List Int) : Option Int :=
  (bif decide (((x.length : Nat) : Int) < 1) then
  none
  else
  ((idx x 0).bind fun x10 =>
  ((slices_Min_int_int_l1 n x 1 x10).bind fun o_25 =>
  some o_25)))
def control_latest (n : Nat) (l : List Int) : Option Int :=
  ((slices_Max_int_int n l).bind fun x4 =>
  some x4)
def control_earliest (n : Nat) (l : List Int) : Option Int :=
  ((slices_Min_int_int n l).bind fun x4 =>
  some x4)
def control_Route_ends_l1 : Nat → Route → End → (List Int) → Int → Option (List Int)
  | 0, _, _, _, _ => none
  | n + 1, r_, e, x_v10, x_v11 =>
    (bif decide (x_v11 < ((r_.legs.length : Nat) : Int)) then
    ((idx r_.legs x_v11).bind fun x15 =>
    ((e.of_ x15).bind fun x21 =>
    ((app x_v10 ([x21] : List Int)).bind fun x23 =>
    control_Route_ends_l1 n r_ e x23 (IntKind.i64.wrap (x_v11 + 1)))))
    else
    some x_v10)
def control_Route_ends_l2 : Nat → Route → End → (List Int) → (List Int) → (List Int) → (List (List Int)) → Int → Option ((List Int) × (List Int) × (List Int) × (List (List Int)))
  | 0, _, _, _, _, _, _, _ => none
  | n + 1, r_, e, x_v20, x_v21, x_v22, x_v23, x_v24 =>
    (bif decide (x_v24 < ((r_.buses.length : Nat) : Int)) then
    ((idx r_.buses x_v24).bind fun x30 =>
    ((e.of_ x30.tm).bind fun x38 =>
    ((app x_v21 ([x38] : List Int)).bind fun x40 =>
    ((e.of_ r_.turn).bind fun x47 =>
    ((app x_v22 ([x47] : List Int)).bind fun x49 =>
    ((slices_Clone_int_int n x_v20).bind fun x53 =>
    ((app x_v23 ([x53] : List (List Int))).bind fun x55 =>
    control_Route_ends_l2 n r_ e x_v20 x40 x49 x55 (IntKind.i64.wrap (x_v24 + 1)))))))))
    else
    some (x_v20, x_v21, x_v22, x_v23))
def control_Route_ends_l3 : Nat → Route → (List Int) → (List (List Int)) → Int → Option ((List Int) × (List (List Int)))
  | 0, _, _, _, _ => none
  | n + 1, r_, x_v30, x_v31, x_v32 =>
    (bif decide (x_v32 < ((r_.spares.length : Nat) : Int)) then
    ((slices_Clone_int_int n x_v30).bind fun x68 =>
    ((app x_v31 ([x68] : List (List Int))).bind fun x70 =>
    control_Route_ends_l3 n r_ x_v30 x70 (IntKind.i64.wrap (x_v32 + 1))))
    else
    some (x_v30, x_v31))
def control_Route_ends (n : Nat) (r_ : Route) (e : End) : Option Truth :=
  ((control_Route_ends_l1 n r_ e ([] : List Int) 0).bind fun o_45 =>
  ((control_Route_ends_l2 n r_ e o_45 ([] : List Int) ([] : List Int) ([] : List (List Int)) 0).bind fun o_163 =>
  ((control_Route_ends_l3 n r_ o_163.1 o_163.2.2.2 0).bind fun o_561 =>
  some (Truth.mk o_163.2.1 o_163.2.2.1 o_561.2))))
def control_Route_passes_1_l1 {σ : Type} : Nat → (σ → Int → Int → Option (σ × Bool)) → Trip → Route → Times → Int → Int → σ → Option (Ex σ σ)
  | 0, _, _, _, _, _, _, _ => none
  | n + 1, yield_, q0, q1, q2, x_v10, x_v11, x_v12 =>
    ((((control_Route_stop n q1 x_v11).bind fun x13 =>
    (bif x13 then
    ((yield_ x_v12 x_v11 x_v10).bind fun x18 =>
    some (x18.2, x18.1))
    else
    some (false, x_v12))) : Option (Bool × σ)).bind fun o_36 =>
    (bif o_36.1 then
    (bif (x_v11 == q0.turned) then
    ((control_Route_stops n q1).bind fun x26 =>
    control_Route_passes_1_l1 n yield_ q0 q1 q2 (IntKind.i64.wrap (x_v10 + q2.turn)) (IntKind.i64.wrap ((IntKind.i64.wrap (x26 - 1)) - x_v11)) o_36.2)
    else
    (bif decide (x_v11 < ((q2.legs.length : Nat) : Int)) then
    ((idx q2.legs x_v11).bind fun x44 =>
    control_Route_passes_1_l1 n yield_ q0 q1 q2 (IntKind.i64.wrap (x_v10 + x44)) (IntKind.i64.wrap (x_v11 + 1)) o_36.2)
    else
    some (Ex.ret o_36.2)))
    else
    some (Ex.go o_36.2)))
def control_Route_passes_1 {σ : Type} (n : Nat) (yield_ : σ → Int → Int → Option (σ × Bool)) (s : σ) (q0 : Trip) (q1 : Route) (q2 : Times) : Option σ :=
  ((control_Route_passes_1_l1 n yield_ q0 q1 q2 q0.tm q0.stop s).bind fun o_22 => Ex.bind o_22 (fun r => some r) fun s_23 =>
  some s_23)
def control_deeds_acts (n : Nat) (d : Deeds) (r_ : Route) : Option Acts :=
  ((takeA ([d.holds.a0, d.holds.a1, d.holds.a2, d.holds.a3] : List Int) ((r_.buses.length : Nat) : Int)).bind fun x9 =>
  ((takeA ([d.turns.a0, d.turns.a1, d.turns.a2, d.turns.a3] : List Int) ((r_.buses.length : Nat) : Int)).bind fun x15 =>
  ((takeA ([d.spares.a0, d.spares.a1] : List Bool) ((r_.spares.length : Nat) : Int)).bind fun x21 =>
  ((slices_Clone_int_int n x9).bind fun x10 =>
  ((slices_Clone_int_int n x15).bind fun x16 =>
  ((slices_Clone_bool_bool n x21).bind fun x22 =>
  some (Acts.mk x10 x16 x22)))))))
def control_Route_passes (n : Nat) (r_ : Route) (x : Trip) (t_ : Times) : Option (Trip × Route × Times) :=
  some (x, r_, t_)
def control_Route_worst_l1 : Nat → Route → (List Int) → (List (Int × Rg)) → (((List Int) × (List (Int × Rg))) → Prop) → Prop
  | 0, _, _, _, _ => False
  | n + 1, r_, x_v10, x_v11, K =>
    ((x_v11 = [] →
    K (x_v10, x_v11)) ∧ (∀ k_79 x_80 rem_82, List.Perm x_v11 ((k_79, x_80) :: rem_82) →
    (∃ x29, ((fun (y0 : Int) => control_Route_looked n r_ y0) x_80.lo) = some x29 ∧
    (bif x29 then
    (∃ x34, (app x_v10 ([x_80.lo] : List Int)) = some x34 ∧
    control_Route_worst_l1 n r_ x34 rem_82 K)
    else
    control_Route_worst_l1 n r_ x_v10 rem_82 K))))
def control_Route_worst_l3 : Nat → Int → Int → (List (Int × Rg)) → ((Int × (List (Int × Rg))) → Prop) → Prop
  | 0, _, _, _, _ => False
  | n + 1, x42, x_v30, x_v31, K =>
    ((x_v31 = [] →
    K (x_v30, x_v31)) ∧ (∀ k_242 x_243 rem_245, List.Perm x_v31 ((k_242, x_243) :: rem_245) →
    (bif decide (x_243.lo > x42) then
    (∃ x60, (control_earliest n ([x_v30, x_243.hi] : List Int)) = some x60 ∧
    control_Route_worst_l3 n x42 x60 rem_245 K)
    else
    control_Route_worst_l3 n x42 x_v30 rem_245 K)))
def control_Route_worst_l2 : Nat → Route → (IMap Int Rg) → ((List Int) × (List (Int × Rg))) → (List Int) → Int → Int → Int → (((List Int) × Int × Int) → Prop) → Prop
  | 0, _, _, _, _, _, _, _, _ => False
  | n + 1, r_, spans, s_59, x_v20, x_v21, x_v22, x_v23, K =>
    (bif decide (x_v21 < ((s_59.1.length : Nat) : Int)) then
    (∃ x42, (idx x_v20 x_v21) = some x42 ∧
    (control_Route_worst_l3 n x42 r_.to_ spans.l (fun s_222 =>
    (bif decide ((IntKind.i64.wrap (s_222.1 - x42)) > x_v23) then
    control_Route_worst_l2 n r_ spans s_59 x_v20 (IntKind.i64.wrap (x_v21 + 1)) x42 (IntKind.i64.wrap (s_222.1 - x42)) K
    else
    control_Route_worst_l2 n r_ spans s_59 x_v20 (IntKind.i64.wrap (x_v21 + 1)) x_v22 x_v23 K))))
    else
    K (x_v20, x_v22, x_v23))
def control_Route_worst (n : Nat) (r_ : Route) (spans : IMap Int Rg) (Q : Wait → Prop) : Prop :=
  (control_Route_worst_l1 n r_ ([r_.fr] : List Int) spans.l (fun s_59 =>
  (control_Route_worst_l2 n r_ spans s_59 s_59.1 0 r_.fr 0 (fun s_170 =>
  Q (Wait.mk s_170.2.1 s_170.2.2)))))
def control_Route_worstE (m to_ : Int) (l : List (Int × Rg)) : Int := l.foldl (fun e p => if p.2.lo > m then min e p.2.hi else e) to_
def control_Route_worstM (r : Route) (l : List (Int × Rg)) : List Int := r.fr :: (l.filter fun p => decide (r.fr ≤ p.2.lo) && decide (p.2.lo ≤ r.to_)).map fun p => p.2.lo
def control_Route_worstL (n : Nat) (r_ : Route) (spans : IMap Int Rg) : Option Int :=
  if 2 * spans.l.length + 20 ≤ n ∧ spans.l.length < 1000000 then some ((control_Route_worstM r_ spans.l).foldl (fun b m => max b (IntKind.i64.wrap (control_Route_worstE m r_.to_ spans.l - m))) 0) else none
def control_worked_spans_l1 : Nat → (List (Option (List (Int × Rg)))) → (List (Option (List (Int × Rg)))) → Int → Option (List (Option (List (Int × Rg))))
  | 0, _, _, _ => none
  | n + 1, x18, x_v10, x_v11 =>
    (bif decide (x_v11 < ((x18.length : Nat) : Int)) then
    ((idx x_v10 x_v11).bind fun x27 =>
    ((upd x_v10 x_v11 (some ([] : List (Int × Rg)))).bind fun u_114 =>
    control_worked_spans_l1 n x18 u_114 (IntKind.i64.wrap (x_v11 + 1))))
    else
    some x_v10)
def control_worked_spans_l2 : Nat → Worked → ((List Trip) × (List Times)) → ((List Trip) × (List Times)) → (List (Option (List (Int × Rg)))) → Int → Option (List (Option (List (Int × Rg))))
  | 0, _, _, _, _, _ => none
  | n + 1, w_, x35, x44, x_v20, x_v21 =>
    (bif decide (x_v21 < ((x35.1.length : Nat) : Int)) then
    ((idx x35.1 x_v21).bind fun x52 =>
    ((idx x35.2 x_v21).bind fun x59 =>
    ((control_Route_passes n w_.route x52 x59).bind fun x61 =>
    ((control_Route_passes_1 n (fun (s : List (Option (List (Int × Rg)))) (x62 : Int) (x63 : Int) => ((((idx s x62).bind fun x66 =>
    (x66.bind fun m_359 =>
    ((upd s x62 (some (put? m_359 x_v21 (Rg.mk x63 x63)))).bind fun u_366 =>
    some u_366))) : Option (List (Option (List (Int × Rg))))).bind fun s1 => some (s1, true))) x_v20 x61.1 x61.2.1 x61.2.2).bind fun o_315 =>
    ((idx x44.1 x_v21).bind fun x76 =>
    ((idx x44.2 x_v21).bind fun x80 =>
    ((control_Route_passes n w_.route x76 x80).bind fun x82 =>
    ((control_Route_passes_1 n (fun (s : List (Option (List (Int × Rg)))) (x83 : Int) (x84 : Int) => ((((idx s x83).bind fun x87 =>
    ((idx s x83).bind fun x92 =>
    (x92.bind fun m_514 =>
    ((some (lookD m_514 x_v21 ((Rg.mk 0 0) : Rg))).bind fun x95 =>
    (x87.bind fun m_527 =>
    ((upd s x83 (some (put? m_527 x_v21 (Rg.mk x95.1.lo x84)))).bind fun u_534 =>
    some u_534)))))) : Option (List (Option (List (Int × Rg))))).bind fun s1 => some (s1, true))) o_315 x82.1 x82.2.1 x82.2.2).bind fun o_456 =>
    control_worked_spans_l2 n w_ x35 x44 o_456 (IntKind.i64.wrap (x_v21 + 1))))))))))
    else
    some x_v20)
def control_worked_spans (n : Nat) (w_ : Worked) : Option (List (IMap Int Rg)) :=
  ((control_Route_stops n w_.route).bind fun x17 =>
  ((mk x17 (none : Option (List (Int × Rg)))).bind fun x18 =>
  ((control_worked_spans_l1 n x18 x18 0).bind fun o_76 =>
  ((control_Route_ends n w_.route (End.mk (fun (y0 : Rg) => control_Range_low n y0))).bind fun x34 =>
  ((control_worked_trips n w_ x34).bind fun x35 =>
  ((control_Route_ends n w_.route (End.mk (fun (y0 : Rg) => control_Range_high n y0))).bind fun x43 =>
  ((control_worked_trips n w_ x43).bind fun x44 =>
  ((control_worked_spans_l2 n w_ x35 x44 o_76 0).bind fun o_227 =>
  ((List.mapM id o_227).bind fun l_579 =>
  some (l_579.map IMap.mk))))))))))
def control_worked_waits_l1 : Nat → Worked → (List (IMap Int Rg)) → (List Int) → Int → Option (List Int)
  | 0, _, _, _, _ => none
  | n + 1, w_, x6, x_v10, x_v11 =>
    (bif decide (x_v11 < ((x6.length : Nat) : Int)) then
    ((idx x6 x_v11).bind fun x10 =>
    ((control_Route_worstL n w_.route x10).bind fun x16 =>
    ((app x_v10 ([x16] : List Int)).bind fun x19 =>
    control_worked_waits_l1 n w_ x6 x19 (IntKind.i64.wrap (x_v11 + 1)))))
    else
    some x_v10)
def control_worked_waits (n : Nat) (w_ : Worked) : Option (List Int) :=
  ((control_worked_spans n w_).bind fun x6 =>
  ((control_worked_waits_l1 n w_ x6 ([] : List Int) 0).bind fun o_52 =>
  some o_52))
def control_Route_keeps_l1 : Nat → Route → Int → (List (IMap Int Rg)) → Int → Option Bool
  | 0, _, _, _, _ => none
  | n + 1, r_, most, x17, x_v10 =>
    (bif decide (x_v10 < ((x17.length : Nat) : Int)) then
    ((idx x17 x_v10).bind fun x21 =>
    ((control_Route_worstL n r_ x21).bind fun x25 =>
    (bif decide (x25 > most) then
    some false
    else
    control_Route_keeps_l1 n r_ most x17 (IntKind.i64.wrap (x_v10 + 1)))))
    else
    some true)
def control_Route_keeps (n : Nat) (r_ : Route) (d : Deeds) (most : Int) : Option Bool :=
  ((control_deeds_acts n d r_).bind fun x14 =>
  ((control_worked_spans n (Worked.mk r_ x14)).bind fun x17 =>
  ((control_Route_keeps_l1 n r_ most x17 0).bind fun o_65 =>
  some o_65)))
mutual
def control_Route_every_1_l1 {σ : Type} : Nat → (σ → Deeds → Cost → Option σ) → Deeds → Cost → Int → Int → Route → Int → A4int → σ → Option (A4int × σ)
  | 0, _, _, _, _, _, _, _, _, _ => none
  | n + 1, see_, d, c, at_, buses, r_, x_v10, x_v11, x_v12 =>
    (bif decide (x_v10 < 3) then
    ((rng 4 at_).bind fun x27 =>
    ((A4int.setI x_v11 at_ x_v10).bind fun u_57 =>
    ((control_Route_every_1 n see_ (Deeds.mk u_57 d.turns d.spares) (Cost.mk (IntKind.i64.wrap (c.number + (if 1 < x_v10 then 1 else x_v10))) (IntKind.i64.wrap (c.sum + x_v10))) (IntKind.i64.wrap (at_ + 1)) buses r_ x_v12).bind fun x42 =>
    control_Route_every_1_l1 n see_ d c at_ buses r_ (IntKind.i64.wrap (x_v10 + 1)) u_57 x42)))
    else
    some (x_v11, x_v12))

def control_Route_every_1_l2 {σ : Type} : Nat → (σ → Deeds → Cost → Option σ) → Deeds → Cost → Int → Int → Route → Int → A4int → σ → Option (A4int × σ)
  | 0, _, _, _, _, _, _, _, _, _ => none
  | n + 1, see_, d, c, at_, buses, r_, x_v20, x_v21, x_v22 =>
    ((control_Route_places n r_).bind fun x51 =>
    (bif decide (x_v20 < x51) then
    ((idx r_.buses (IntKind.i64.wrap (at_ - buses))).bind fun x61 =>
    ((control_Route_turns n r_ x61 x_v20).bind fun x64 =>
    (bif x64 then
    ((rng 4 (IntKind.i64.wrap (at_ - buses))).bind fun x70 =>
    ((A4int.setI x_v21 (IntKind.i64.wrap (at_ - buses)) x_v20).bind fun u_165 =>
    ((control_Route_every_1 n see_ (Deeds.mk d.holds u_165 d.spares) (Cost.mk (IntKind.i64.wrap (c.number + (if 1 < (IntKind.i64.wrap (x_v20 + 1)) then 1 else (IntKind.i64.wrap (x_v20 + 1))))) c.sum) (IntKind.i64.wrap (at_ + 1)) buses r_ x_v22).bind fun x84 =>
    control_Route_every_1_l2 n see_ d c at_ buses r_ (IntKind.i64.wrap (x_v20 + 1)) u_165 x84)))
    else
    control_Route_every_1_l2 n see_ d c at_ buses r_ (IntKind.i64.wrap (x_v20 + 1)) x_v21 x_v22)))
    else
    some (x_v21, x_v22)))

def control_Route_every_1_l3 {σ : Type} : Nat → (σ → Deeds → Cost → Option σ) → Deeds → Cost → Int → Int → Route → Int → A2bool → σ → Option (A2bool × σ)
  | 0, _, _, _, _, _, _, _, _, _ => none
  | n + 1, see_, d, c, at_, buses, r_, x_v30, x_v31, x_v32 =>
    (bif decide (x_v30 < 2) then
    ((rng 2 (IntKind.i64.wrap (at_ - (IntKind.i64.wrap (2 * buses))))).bind fun x104 =>
    ((A2bool.setI x_v31 (IntKind.i64.wrap (at_ - (IntKind.i64.wrap (2 * buses)))) (x_v30 == 1)).bind fun u_241 =>
    ((control_Route_every_1 n see_ (Deeds.mk d.holds d.turns u_241) (Cost.mk (IntKind.i64.wrap (c.number + x_v30)) c.sum) (IntKind.i64.wrap (at_ + 1)) buses r_ x_v32).bind fun x116 =>
    control_Route_every_1_l3 n see_ d c at_ buses r_ (IntKind.i64.wrap (x_v30 + 1)) u_241 x116)))
    else
    some (x_v31, x_v32))
def control_Route_every_1 {σ : Type} : Nat → (σ → Deeds → Cost → Option σ) → Deeds → Cost → Int → Int → Route → σ → Option σ
  | 0, _, _, _, _, _, _, _ => none
  | n + 1, see_, d, c, at_, buses, r_, s =>
    (bif decide (at_ < buses) then
    ((control_Route_every_1_l1 n see_ d c at_ buses r_ 0 d.holds s).bind fun o_33 =>
    some o_33.2)
    else
    (bif decide (at_ < (IntKind.i64.wrap (2 * buses))) then
    ((control_Route_every_1_l2 n see_ d c at_ buses r_ (-1) d.turns s).bind fun o_107 =>
    some o_107.2)
    else
    (bif decide (at_ < (IntKind.i64.wrap ((IntKind.i64.wrap (2 * buses)) + ((r_.spares.length : Nat) : Int)))) then
    ((control_Route_every_1_l3 n see_ d c at_ buses r_ 0 d.spares s).bind fun o_217 =>
    some o_217.2)
    else
    ((see_ s d c).bind fun x16 =>
    some x16))))
end

def control_Route_every {σ : Type} (n : Nat) (see_ : σ → Deeds → Cost → Option σ) (r_ : Route) (s : σ) : Option σ :=
  ((control_Route_every_1 n see_ (Deeds.mk (A4int.mk 0 0 0 0) (A4int.mk 0 0 0 0) (A2bool.mk false false)) (Cost.mk 0 0) 0 ((r_.buses.length : Nat) : Int) r_ s).bind fun x13 =>
  some x13)
def control_Best_1 (n : Nat) (d : Deeds) (c : Cost) (found : Bool) (least : Cost) (best : Deeds) (r_ : Route) : Option (Bool × Cost × Deeds) :=
  (((bif found then
  (bif ((c.number == least.number) && ((c.sum == least.sum) && true)) then
  some true
  else
  (bif decide (c.number > least.number) then
  some true
  else
  (bif (c.number == least.number) then
  some (decide (c.sum > least.sum))
  else
  some false)))
  else
  some false) : Option Bool).bind fun o_21 =>
  (bif o_21 then
  some (found, least, best)
  else
  ((control_Route_keeps n r_ d r_.gap).bind fun x39 =>
  (bif x39 then
  some (true, c, d)
  else
  some (found, least, best)))))
def control_Best_1_XS (h0 : Heap) (b_found b_least b_best : Nat) (s : Bool × Cost × Deeds) (F : Fr) (h : Heap) : Prop := Heap.le h0 h ∧ (b_found ≠ b_least ∧ b_found ≠ b_best ∧ b_least ≠ b_best ∧ True) ∧ (F.X b_found = some (.cells ([.bool s.1] : List Value).toArray 4 (0, 0)) ∧ ∀ o, F.h b_found o = none) ∧ (F.X b_least = some (.cells ([.int .i64 s.2.1.number, .int .i64 s.2.1.sum] : List Value).toArray 104 (0, 0)) ∧ ∀ o, F.h b_least o = none) ∧ (F.X b_best = some (.cells ([.int .i64 s.2.2.holds.a0, .int .i64 s.2.2.holds.a1, .int .i64 s.2.2.holds.a2, .int .i64 s.2.2.holds.a3, .int .i64 s.2.2.turns.a0, .int .i64 s.2.2.turns.a1, .int .i64 s.2.2.turns.a2, .int .i64 s.2.2.turns.a3, .bool s.2.2.spares.a0, .bool s.2.2.spares.a1] : List Value).toArray 102 (0, 0)) ∧ ∀ o, F.h b_best o = none) ∧ True
def control_Best_1_B (b_found b_least b_best : Nat) (b : Nat) : Prop := b = b_found ∨ b = b_least ∨ b = b_best
def control_Best (n : Nat) (r_ : Route) : Option (Acts × Int) :=
  ((control_Route_check n r_).bind fun x9 =>
  (bif (x9 != 0) then
  some ((Acts.mk ([] : List Int) ([] : List Int) ([] : List Bool)), x9)
  else
  ((control_Route_every n (fun s y0 y1 => control_Best_1 n y0 y1 s.1 s.2.1 s.2.2 r_) r_ (false, (Cost.mk 0 0), (Deeds.mk (A4int.mk 0 0 0 0) (A4int.mk 0 0 0 0) (A2bool.mk false false)))).bind fun x16 =>
  (bif (!x16.1) then
  some ((Acts.mk ([] : List Int) ([] : List Int) ([] : List Bool)), 9)
  else
  ((control_deeds_acts n x16.2.2 r_).bind fun x22 =>
  some (x22, 0))))))
def control_Least_1 (n : Nat) (d : Deeds) (p1 : Cost) (least : Int) (tried : List (Deeds × Int)) (r_ : Route) : Option ((List (Deeds × Int)) × Int) :=
  ((some (lookD tried d (0 : Int))).bind fun x12 =>
  (bif (!x12.2) then
  ((control_deeds_acts n d r_).bind fun x22 =>
  ((control_worked_waits n (Worked.mk r_ x22)).bind fun x24 =>
  ((control_latest n x24).bind fun x25 =>
  ((some (lookD (put? tried d x25) d (0 : Int))).bind fun x29 =>
  ((control_earliest n ([least, x29.1] : List Int)).bind fun x31 =>
  some ((put? tried d x25), x31))))))
  else
  ((some (lookD tried d (0 : Int))).bind fun x29 =>
  ((control_earliest n ([least, x29.1] : List Int)).bind fun x31 =>
  some (tried, x31)))))
def control_Least_1_XS (h0 : Heap) (b_least bm_tried : Nat) (s : (List (Deeds × Int)) × Int) (F : Fr) (h : Heap) : Prop := Heap.le h0 h ∧ (b_least ≠ bm_tried ∧ True) ∧ ∃ (es_137 : Array MapEntry) (cl_138 : Nat), (F.X b_least = some (.cells ([.int .i64 s.2] : List Value).toArray 3 (0, 0)) ∧ ∀ o, F.h b_least o = none) ∧ F.X bm_tried = some (.map es_137 cl_138) ∧ Ents h es_137.toList cl_138 s.1 ∧ True
def control_Least_1_B (b_least bm_tried : Nat) (b : Nat) : Prop := b = b_least ∨ b = bm_tried
def control_Least (n : Nat) (r_ : Route) : Option (Int × Int) :=
  ((control_Route_check n r_).bind fun x8 =>
  (bif (x8 != 0) then
  some (0, x8)
  else
  ((control_Route_every n (fun s y0 y1 => control_Least_1 n y0 y1 s.2 s.1 r_) r_ (([] : List (Deeds × Int)), IntKind.i64.wrap (r_.to_ - r_.fr))).bind fun x20 =>
  some (x20.2, 0))))
def control_Worst (n : Nat) (r_ : Route) (a : Acts) : Option ((List Int) × Int) :=
  ((control_Route_acts n r_ a).bind fun x9 =>
  (bif (x9 != 0) then
  some (([] : List Int), x9)
  else
  ((control_worked_waits n (Worked.mk r_ a)).bind fun x16 =>
  some (x16, 0))))
def law_awake (n : Nat)  : Option Bool :=
  ((law_line n ).bind fun x8 =>
  ((law_free n ).bind fun x9 =>
  ((control_Worst n x8 x9).bind fun x10 =>
  ((law_line n ).bind fun x14 =>
  ((control_Best n x14).bind fun x15 =>
  ((law_line n ).bind fun x19 =>
  ((control_Least n x19).bind fun x20 =>
  (bif (x10.2 == 0) then
  ((law_ints n x10.1 ([40, 30, 30, 37] : List Int)).bind fun x28 =>
  (bif x28 then
  (bif (x15.2 == 0) then
  ((law_held n ).bind fun x36 =>
  ((law_acts n (Acts.mk x15.1.holds x15.1.turns x15.1.spares) x36).bind fun x37 =>
  (bif x37 then
  (bif (x20.2 == 0) then
  some (x20.1 == 35)
  else
  some false)
  else
  some false)))
  else
  some false)
  else
  some false))
  else
  some false))))))))
def law_ControlSpare_l1 : Nat → ((List Int) × Int) → ((List Int) × Int) → Int → Option (Ex Bool Unit)
  | 0, _, _, _ => none
  | n + 1, x34, x71, x_v10 =>
    (bif decide (x_v10 < ((x71.1.length : Nat) : Int)) then
    ((idx x71.1 x_v10).bind fun x91 =>
    ((idx x34.1 x_v10).bind fun x95 =>
    (bif decide (x91 > x95) then
    some (Ex.ret false)
    else
    law_ControlSpare_l1 n x34 x71 (IntKind.i64.wrap (x_v10 + 1)))))
    else
    some (Ex.go ()))
def law_ControlSpare_l2 : Nat → Route → (IK .u8) → ((List Int) × Int) → Bus → ((List Int) × Int) → Int → Option (Ex Bool Unit)
  | 0, _, _, _, _, _, _ => none
  | n + 1, r_, where_, x34, x112, x147, x_v20 =>
    ((ref_Places n r_).bind fun x163 =>
    (bif decide (x_v20 < (IntKind.i64.wrap ((IntKind.i64.wrap ((IntKind.i64.wrap (2 * x163)) - 1)) - (IntKind.i64.wrap (x112.stop + (Int.tmod (IntKind.i64.wrap where_.n) 4)))))) then
    ((idx x147.1 x_v20).bind fun x173 =>
    ((idx x34.1 x_v20).bind fun x177 =>
    (bif decide (x173 < x177) then
    some (Ex.ret false)
    else
    law_ControlSpare_l2 n r_ where_ x34 x112 x147 (IntKind.i64.wrap (x_v20 + 1)))))
    else
    some (Ex.go ())))
def law_ControlSpare_l3 : Nat → Route → (IK .u8) → ((List Int) × Int) → Bus → ((List Int) × Int) → Int → Option (Ex Bool Unit)
  | 0, _, _, _, _, _, _ => none
  | n + 1, r_, where_, x34, x112, x147, x_v30 =>
    ((ref_Places n r_).bind fun x163 =>
    (bif decide (x_v30 < (IntKind.i64.wrap ((IntKind.i64.wrap ((IntKind.i64.wrap (2 * x163)) - 1)) - (IntKind.i64.wrap (x112.stop + (Int.tmod (IntKind.i64.wrap where_.n) 4)))))) then
    ((idx x147.1 x_v30).bind fun x173 =>
    ((idx x34.1 x_v30).bind fun x177 =>
    (bif decide (x173 < x177) then
    some (Ex.ret false)
    else
    law_ControlSpare_l3 n r_ where_ x34 x112 x147 (IntKind.i64.wrap (x_v30 + 1)))))
    else
    some (Ex.go ())))
def law_ControlSpare (n : Nat) (r_ : Route) (a : Acts) (more : Spare) (at_ : IK .u8) (where_ : IK .u8) : Option Bool :=
  ((law_ready n r_ a).bind fun x26 =>
  (bif (!x26) then
  ((law_awake n ).bind fun x28 =>
  some x28)
  else
  ((law_Route n r_).bind fun x31 =>
  ((law_Acts n a).bind fun x33 =>
  ((control_Worst n x31 x33).bind fun x34 =>
  (((bif (x34.2 != 0) then
  some true
  else
  ((ref_Stops n r_).bind fun x43 =>
  some (((x34.1.length : Nat) : Int) != x43))) : Option Bool).bind fun o_108 =>
  (bif o_108 then
  some false
  else
  ((app ([] : List Spare) r_.spares).bind fun x51 =>
  ((app x51 ([more] : List Spare)).bind fun x54 =>
  ((app ([] : List Bool) a.spares).bind fun x58 =>
  ((app x58 ([true] : List Bool)).bind fun x60 =>
  ((law_ready n (Route.mk r_.legs r_.turn r_.buses x54 r_.unit r_.gap r_.fr r_.to_) (Acts.mk a.holds a.turns x60)).bind fun x65 =>
  (bif x65 then
  ((law_Route n (Route.mk r_.legs r_.turn r_.buses x54 r_.unit r_.gap r_.fr r_.to_)).bind fun x68 =>
  ((law_Acts n (Acts.mk a.holds a.turns x60)).bind fun x70 =>
  ((control_Worst n x68 x70).bind fun x71 =>
  (((bif (x71.2 != 0) then
  some true
  else
  some (((x71.1.length : Nat) : Int) != ((x34.1.length : Nat) : Int))) : Option Bool).bind fun o_310 =>
  (bif o_310 then
  some false
  else
  ((law_ControlSpare_l1 n x34 x71 0).bind fun o_332 => Ex.bind o_332 (fun r => some r) fun s_333 =>
  (bif (((r_.buses.length : Nat) : Int) == 0) then
  ((law_awake n ).bind fun x102 =>
  some x102)
  else
  ((nz ((r_.buses.length : Nat) : Int)).bind fun x108 =>
  ((idx r_.buses (Int.tmod (IntKind.i64.wrap at_.n) ((r_.buses.length : Nat) : Int))).bind fun x112 =>
  ((law_list n a.turns).bind fun x122 =>
  ((idx x122 (Int.tmod (IntKind.i64.wrap at_.n) ((r_.buses.length : Nat) : Int))).bind fun x128 =>
  ((upd x122 (Int.tmod (IntKind.i64.wrap at_.n) ((r_.buses.length : Nat) : Int)) (IntKind.i64.wrap (x112.stop + (Int.tmod (IntKind.i64.wrap where_.n) 4)))).bind fun u_470 =>
  ((((idx a.turns (Int.tmod (IntKind.i64.wrap at_.n) ((r_.buses.length : Nat) : Int))).bind fun x132 =>
  (bif (x132 != (-1)) then
  some (u_470, true)
  else
  ((ref_AreActs n r_ (Acts.mk a.holds u_470 a.spares)).bind fun x138 =>
  some (u_470, (!x138))))) : Option ((List Int) × Bool)).bind fun o_482 =>
  (bif o_482.2 then
  ((law_awake n ).bind fun x141 =>
  some x141)
  else
  ((law_Route n r_).bind fun x144 =>
  ((law_Acts n (Acts.mk a.holds o_482.1 a.spares)).bind fun x146 =>
  ((control_Worst n x144 x146).bind fun x147 =>
  (((bif (x147.2 != 0) then
  some true
  else
  some (((x147.1.length : Nat) : Int) != ((x34.1.length : Nat) : Int))) : Option Bool).bind fun o_597 =>
  (bif o_597 then
  some false
  else
  ((law_ControlSpare_l2 n r_ where_ x34 x112 x147 (IntKind.i64.wrap ((IntKind.i64.wrap (x112.stop + (Int.tmod (IntKind.i64.wrap where_.n) 4))) + 1))).bind fun o_619 => Ex.bind o_619 (fun r => some r) fun s_620 =>
  ((law_awake n ).bind fun x180 =>
  some x180)))))))))))))))))))))
  else
  (bif (((r_.buses.length : Nat) : Int) == 0) then
  ((law_awake n ).bind fun x102 =>
  some x102)
  else
  ((nz ((r_.buses.length : Nat) : Int)).bind fun x108 =>
  ((idx r_.buses (Int.tmod (IntKind.i64.wrap at_.n) ((r_.buses.length : Nat) : Int))).bind fun x112 =>
  ((law_list n a.turns).bind fun x122 =>
  ((idx x122 (Int.tmod (IntKind.i64.wrap at_.n) ((r_.buses.length : Nat) : Int))).bind fun x128 =>
  ((upd x122 (Int.tmod (IntKind.i64.wrap at_.n) ((r_.buses.length : Nat) : Int)) (IntKind.i64.wrap (x112.stop + (Int.tmod (IntKind.i64.wrap where_.n) 4)))).bind fun u_777 =>
  ((((idx a.turns (Int.tmod (IntKind.i64.wrap at_.n) ((r_.buses.length : Nat) : Int))).bind fun x132 =>
  (bif (x132 != (-1)) then
  some (u_777, true)
  else
  ((ref_AreActs n r_ (Acts.mk a.holds u_777 a.spares)).bind fun x138 =>
  some (u_777, (!x138))))) : Option ((List Int) × Bool)).bind fun o_789 =>
  (bif o_789.2 then
  ((law_awake n ).bind fun x141 =>
  some x141)
  else
  ((law_Route n r_).bind fun x144 =>
  ((law_Acts n (Acts.mk a.holds o_789.1 a.spares)).bind fun x146 =>
  ((control_Worst n x144 x146).bind fun x147 =>
  (((bif (x147.2 != 0) then
  some true
  else
  some (((x147.1.length : Nat) : Int) != ((x34.1.length : Nat) : Int))) : Option Bool).bind fun o_904 =>
  (bif o_904 then
  some false
  else
  ((law_ControlSpare_l3 n r_ where_ x34 x112 x147 (IntKind.i64.wrap ((IntKind.i64.wrap (x112.stop + (Int.tmod (IntKind.i64.wrap where_.n) 4))) + 1))).bind fun o_926 => Ex.bind o_926 (fun r => some r) fun s_927 =>
  ((law_awake n ).bind fun x180 =>
  some x180))))))))))))))))))))))))))))
end Go.Proofs.Ytokchpjijlebiaa
