/- What the functions compute, in plain Lean. -/
import Derived.Test.YtkbphdjemgibnaaSsS5
import Derived.Test.YtkbphdjemgibnaaProg
set_option linter.all false
namespace Go.Proofs.Ytkbphdjemgibnaa
open Go Go.RowKit
open Rep (rep)
open KRep (kv)
open VRep (rv)
structure Job where
  due : Int
  work : Int
  cost : Int
deriving DecidableEq, Inhabited
instance : Rep Job := Rep.via fun x => (x.due, x.work, x.cost)
instance : VRep Job := VRep.agg Job
structure Shop where
  buses : List Job
  days : Int
  pits : List Int
deriving DecidableEq, Inhabited
instance : Rep Shop := Rep.via fun x => (x.buses, x.days, x.pits)
instance : VRep Shop := VRep.agg Shop
structure Card where
  bus : Int
  number : Int
  minute : Int
  kind : IK .u8
  part : Int
  sg : Int
deriving DecidableEq, Inhabited
instance : Rep Card := Rep.via fun x => (x.bus, x.number, x.minute, x.kind, x.part, x.sg)
instance : VRep Card := VRep.agg Card
def Fn1 (h : Heap) (v : Value) (f : Card → Option Bool) : Prop := ∀ (h' : Heap) (w' : World), Heap.le h h' → Has h' w' → ∀ (x0 : Card) (cs0 : List Value) (_ : rep h' x0 cs0) (r : Bool), f x0 = some r → CallsV Try.prog v #[.agg cs0.toArray] w' (Ret (fun h v => v = .bool r) h' w')
theorem Fn1.mono {h h' : Heap} {v : Value} {f : Card → Option Bool} (H : Fn1 h v f) (hle : Heap.le h h') : Fn1 h' v f := fun h2 w2 l => H h2 w2 (Heap.le_trans hle l)
instance : Rep (Card → Option Bool) := ⟨1, fun h f cs => ∃ fn first cap, cs = [.func fn first cap] ∧ Fn1 h (.func fn first cap) f, fun hle ⟨a, b, c, e, hr⟩ => ⟨a, b, c, e, hr.mono hle⟩, fun ⟨a, b, c, e, _⟩ => by subst e; rfl, fun ⟨a, b, c, e, _⟩ v hv => by subst e; simp at hv; subst hv; rfl⟩
structure Kind where
  right : Card → Option Bool
instance : Rep Kind := Rep.via fun x => (x.right)
instance : VRep Kind := VRep.agg Kind
structure Book where
  cards : IMap Int Card
  numbers : List Int
deriving DecidableEq, Inhabited
instance : Rep Book := Rep.via fun x => (x.cards, x.numbers)
instance : VRep Book := VRep.agg Book
def Fn2 (h : Heap) (v : Value) (f : Card → Int → Option Bool) : Prop := ∀ (h' : Heap) (w' : World), Heap.le h h' → Has h' w' → ∀ (x0 : Card) (cs0 : List Value) (_ : rep h' x0 cs0) (x1 : Int) (r : Bool), f x0 x1 = some r → CallsV Try.prog v #[.agg cs0.toArray, .int .i64 x1] w' (Ret (fun h v => v = .bool r) h' w')
theorem Fn2.mono {h h' : Heap} {v : Value} {f : Card → Int → Option Bool} (H : Fn2 h v f) (hle : Heap.le h h') : Fn2 h' v f := fun h2 w2 l => H h2 w2 (Heap.le_trans hle l)
instance : Rep (Card → Int → Option Bool) := ⟨1, fun h f cs => ∃ fn first cap, cs = [.func fn first cap] ∧ Fn2 h (.func fn first cap) f, fun hle ⟨a, b, c, e, hr⟩ => ⟨a, b, c, e, hr.mono hle⟩, fun ⟨a, b, c, e, _⟩ => by subst e; rfl, fun ⟨a, b, c, e, _⟩ v hv => by subst e; simp at hv; subst hv; rfl⟩
structure Rg where
  lo : Int
  hi : Int
deriving DecidableEq, Inhabited
instance : Rep Rg := Rep.via fun x => (x.lo, x.hi)
instance : VRep Rg := VRep.agg Rg
structure Wear where
  miles : Rg
  daily : Rg
  age : Int
  far : Int
  long : Int
deriving DecidableEq, Inhabited
instance : Rep Wear := Rep.via fun x => (x.miles, x.daily, x.age, x.far, x.long)
instance : VRep Wear := VRep.agg Wear
def Fn3 (h : Heap) (v : Value) (f : Int → Option Bool) : Prop := ∀ (h' : Heap) (w' : World), Heap.le h h' → Has h' w' → ∀ (x0 : Int) (r : Bool), f x0 = some r → CallsV Try.prog v #[.int .i64 x0] w' (Ret (fun h v => v = .bool r) h' w')
theorem Fn3.mono {h h' : Heap} {v : Value} {f : Int → Option Bool} (H : Fn3 h v f) (hle : Heap.le h h') : Fn3 h' v f := fun h2 w2 l => H h2 w2 (Heap.le_trans hle l)
instance : Rep (Int → Option Bool) := ⟨1, fun h f cs => ∃ fn first cap, cs = [.func fn first cap] ∧ Fn3 h (.func fn first cap) f, fun hle ⟨a, b, c, e, hr⟩ => ⟨a, b, c, e, hr.mono hle⟩, fun ⟨a, b, c, e, _⟩ => by subst e; rfl, fun ⟨a, b, c, e, _⟩ v hv => by subst e; simp at hv; subst hv; rfl⟩
def Fn4 (h : Heap) (v : Value) (f : Job → Option Bool) : Prop := ∀ (h' : Heap) (w' : World), Heap.le h h' → Has h' w' → ∀ (x0 : Job) (cs0 : List Value) (_ : rep h' x0 cs0) (r : Bool), f x0 = some r → CallsV Try.prog v #[.agg cs0.toArray] w' (Ret (fun h v => v = .bool r) h' w')
theorem Fn4.mono {h h' : Heap} {v : Value} {f : Job → Option Bool} (H : Fn4 h v f) (hle : Heap.le h h') : Fn4 h' v f := fun h2 w2 l => H h2 w2 (Heap.le_trans hle l)
instance : Rep (Job → Option Bool) := ⟨1, fun h f cs => ∃ fn first cap, cs = [.func fn first cap] ∧ Fn4 h (.func fn first cap) f, fun hle ⟨a, b, c, e, hr⟩ => ⟨a, b, c, e, hr.mono hle⟩, fun ⟨a, b, c, e, _⟩ => by subst e; rfl, fun ⟨a, b, c, e, _⟩ v hv => by subst e; simp at hv; subst hv; rfl⟩
structure Hours where
  a0 : Int
  a1 : Int
  a2 : Int
  a3 : Int
  a4 : Int
  a5 : Int
  a6 : Int
  a7 : Int
  a8 : Int
  a9 : Int
  a10 : Int
  a11 : Int
  a12 : Int
  a13 : Int
deriving DecidableEq, Inhabited
instance : Rep Hours := Rep.via fun x => (x.a0, x.a1, x.a2, x.a3, x.a4, x.a5, x.a6, x.a7, x.a8, x.a9, x.a10, x.a11, x.a12, x.a13)
instance : VRep Hours := VRep.agg Hours
def Hours.toL (x : Hours) : List Int := [x.a0, x.a1, x.a2, x.a3, x.a4, x.a5, x.a6, x.a7, x.a8, x.a9, x.a10, x.a11, x.a12, x.a13]
def Hours.ofL : List Int → Option Hours
  | [a0, a1, a2, a3, a4, a5, a6, a7, a8, a9, a10, a11, a12, a13] => some ⟨a0, a1, a2, a3, a4, a5, a6, a7, a8, a9, a10, a11, a12, a13⟩
  | _ => none
theorem Hours.ofL_some {l : List Int} {y : Hours} (h : Hours.ofL l = some y) : y.toL = l := by
  unfold Hours.ofL at h
  split at h
  · cases h; rfl
  · cases h
def Hours.setI (x : Hours) (i : Int) (v : Int) : Option Hours := (upd x.toL i v).bind Hours.ofL
theorem Hours.setI_some {x y : Hours} {i : Int} {v : Int} (h : x.setI i v = some y) : 0 ≤ i ∧ i < 14 ∧ y.toL = x.toL.set i.toNat v := by
  obtain ⟨l, hl, h2⟩ := bnd h
  obtain ⟨h0, h1, rfl⟩ := upd_some hl
  exact ⟨h0, h1, Hours.ofL_some h2⟩
structure Rest where
  bus : Int
  left : Hours
deriving DecidableEq, Inhabited
instance : Rep Rest := Rep.via fun x => (x.bus, x.left)
instance : VRep Rest := VRep.agg Rest
structure Done where
  plan : List Int
  cost : Int
deriving DecidableEq, Inhabited
instance : Rep Done := Rep.via fun x => (x.plan, x.cost)
instance : VRep Done := VRep.agg Done
instance : KRep Rest := ⟨fun x => .agg #[.int .i64 x.bus, .int .i64 x.left.a0, .int .i64 x.left.a1, .int .i64 x.left.a2, .int .i64 x.left.a3, .int .i64 x.left.a4, .int .i64 x.left.a5, .int .i64 x.left.a6, .int .i64 x.left.a7, .int .i64 x.left.a8, .int .i64 x.left.a9, .int .i64 x.left.a10, .int .i64 x.left.a11, .int .i64 x.left.a12, .int .i64 x.left.a13], fun {a b} h => by
  rcases a with ⟨a0, ⟨a1, a2, a3, a4, a5, a6, a7, a8, a9, a10, a11, a12, a13, a14⟩⟩
  rcases b with ⟨b0, ⟨b1, b2, b3, b4, b5, b6, b7, b8, b9, b10, b11, b12, b13, b14⟩⟩
  simp_all⟩
structure A2int where
  a0 : List Int
  a1 : List Int
deriving DecidableEq, Inhabited
instance : Rep A2int := Rep.via fun x => (x.a0, x.a1)
instance : VRep A2int := VRep.agg A2int
def A2int.toL (x : A2int) : List (List Int) := [x.a0, x.a1]
def A2int.ofL : List (List Int) → Option A2int
  | [a0, a1] => some ⟨a0, a1⟩
  | _ => none
theorem A2int.ofL_some {l : List (List Int)} {y : A2int} (h : A2int.ofL l = some y) : y.toL = l := by
  unfold A2int.ofL at h
  split at h
  · cases h; rfl
  · cases h
def A2int.setI (x : A2int) (i : Int) (v : List Int) : Option A2int := (upd x.toL i v).bind A2int.ofL
theorem A2int.setI_some {x y : A2int} {i : Int} {v : List Int} (h : x.setI i v = some y) : 0 ≤ i ∧ i < 2 ∧ y.toL = x.toL.set i.toNat v := by
  obtain ⟨l, hl, h2⟩ := bnd h
  obtain ⟨h0, h1, rfl⟩ := upd_some hl
  exact ⟨h0, h1, A2int.ofL_some h2⟩
def ref_In (n : Nat) (n_ : Int) (low : Int) (high : Int) : Option Bool :=
  (bif decide (n_ ≥ low) then
  some (decide (n_ ≤ high))
  else
  some false)
def law_ints_l1 : Nat → (List Int) → (List Int) → Int → Option (Ex Bool Unit)
  | 0, _, _, _ => none
  | n + 1, a, b, x_v10 =>
    (bif decide (x_v10 < ((a.length : Nat) : Int)) then
    ((idx a x_v10).bind fun x19 =>
    ((idx b x_v10).bind fun x23 =>
    (bif (x19 != x23) then
    some (Ex.ret false)
    else
    law_ints_l1 n a b (IntKind.i64.wrap (x_v10 + 1)))))
    else
    some (Ex.go ()))
def law_ints (n : Nat) (a : List Int) (b : List Int) : Option Bool :=
  (bif (((a.length : Nat) : Int) != ((b.length : Nat) : Int)) then
  some false
  else
  ((law_ints_l1 n a b 0).bind fun o_11 => Ex.bind o_11 (fun r => some r) fun s_12 =>
  some true))
def law_list (n : Nat) (l : List Int) : Option (List Int) :=
  ((app ([] : List Int) l).bind fun x5 =>
  some x5)
def law_Shop_l1 : Nat → Shop → (List Job) → Int → Option (List Job)
  | 0, _, _, _ => none
  | n + 1, s, x_v10, x_v11 =>
    (bif decide (x_v11 < ((s.buses.length : Nat) : Int)) then
    ((idx s.buses x_v11).bind fun x23 =>
    ((idx s.buses x_v11).bind fun x29 =>
    ((idx s.buses x_v11).bind fun x35 =>
    ((app x_v10 ([(Job.mk x23.due x29.work x35.cost)] : List Job)).bind fun x40 =>
    law_Shop_l1 n s x40 (IntKind.i64.wrap (x_v11 + 1))))))
    else
    some x_v10)
def law_Shop (n : Nat) (s : Shop) : Option Shop :=
  ((law_list n s.pits).bind fun x9 =>
  ((law_Shop_l1 n s ([] : List Job) 0).bind fun o_50 =>
  some (Shop.mk o_50 s.days x9)))
def ref_ShopFault_l1 : Nat → Shop → Int → Option (Ex Int Unit)
  | 0, _, _ => none
  | n + 1, s, x_v10 =>
    (bif decide (x_v10 < ((s.pits.length : Nat) : Int)) then
    ((idx s.pits x_v10).bind fun x32 =>
    ((ref_In n x32 0 160).bind fun x34 =>
    (bif (!x34) then
    some (Ex.ret 1)
    else
    ref_ShopFault_l1 n s (IntKind.i64.wrap (x_v10 + 1)))))
    else
    some (Ex.go ()))
def ref_ShopFault_l2 : Nat → Shop → Int → Option (Ex Int Unit)
  | 0, _, _ => none
  | n + 1, s, x_v20 =>
    (bif decide (x_v20 < ((s.buses.length : Nat) : Int)) then
    ((idx s.buses x_v20).bind fun x46 =>
    ((ref_In n x46.due 0 14).bind fun x50 =>
    (bif (!x50) then
    some (Ex.ret 1)
    else
    ((ref_In n x46.work 1 20).bind fun x55 =>
    (bif (!x55) then
    some (Ex.ret 1)
    else
    ((ref_In n x46.cost 0 1000).bind fun x61 =>
    (bif (!x61) then
    some (Ex.ret 1)
    else
    ref_ShopFault_l2 n s (IntKind.i64.wrap (x_v20 + 1)))))))))
    else
    some (Ex.go ()))
def ref_ShopFault (n : Nat) (s : Shop) : Option Int :=
  (bif decide (((s.buses.length : Nat) : Int) > 8) then
  some 3
  else
  ((((ref_In n s.days 1 14).bind fun x12 =>
  (bif (!x12) then
  some true
  else
  some (((s.pits.length : Nat) : Int) != s.days))) : Option Bool).bind fun o_19 =>
  (bif o_19 then
  some 1
  else
  ((ref_ShopFault_l1 n s 0).bind fun o_51 => Ex.bind o_51 (fun r => some r) fun s_52 =>
  ((ref_ShopFault_l2 n s 0).bind fun o_106 => Ex.bind o_106 (fun r => some r) fun s_107 =>
  some 0)))))
def ref_Needed_l1 : Nat → Shop → Int → Int → Int → Option Int
  | 0, _, _, _, _ => none
  | n + 1, s, day, x_v10, x_v11 =>
    (bif decide (x_v10 < ((s.buses.length : Nat) : Int)) then
    ((idx s.buses x_v10).bind fun x17 =>
    (bif decide (x17.due ≤ day) then
    ((idx s.buses x_v10).bind fun x26 =>
    ref_Needed_l1 n s day (IntKind.i64.wrap (x_v10 + 1)) (IntKind.i64.wrap (x_v11 + x26.work)))
    else
    ref_Needed_l1 n s day (IntKind.i64.wrap (x_v10 + 1)) x_v11))
    else
    some x_v11)
def ref_Needed (n : Nat) (s : Shop) (day : Int) : Option Int :=
  ((ref_Needed_l1 n s day 0 0).bind fun o_19 =>
  some o_19)
def ref_Short_l1 : Nat → Shop → Int → Int → Option (Ex Int Unit)
  | 0, _, _, _ => none
  | n + 1, s, x_v10, x_v11 =>
    (bif decide (x_v10 < s.days) then
    ((idx s.pits x_v10).bind fun x15 =>
    ((ref_Needed n s x_v10).bind fun x21 =>
    (bif decide ((IntKind.i64.wrap (x_v11 + x15)) < x21) then
    some (Ex.ret x_v10)
    else
    ref_Short_l1 n s (IntKind.i64.wrap (x_v10 + 1)) (IntKind.i64.wrap (x_v11 + x15)))))
    else
    some (Ex.go ()))
def ref_Short (n : Nat) (s : Shop) : Option Int :=
  ((ref_Short_l1 n s 0 0).bind fun o_19 => Ex.bind o_19 (fun r => some r) fun s_20 =>
  some (-1))
def law_small (n : Nat) (s : Shop) : Option Bool :=
  (bif decide (((s.buses.length : Nat) : Int) ≤ 6) then
  (bif decide (((s.pits.length : Nat) : Int) ≤ 6) then
  ((ref_ShopFault n s).bind fun x15 =>
  some (x15 == 0))
  else
  some false)
  else
  some false)
def pit_cards_card (n : Nat) (m : IMap Int Card) (n_ : Int) : Option (Card × Bool) :=
  ((some (lookD m.l n_ ((Card.mk 0 0 0 (IK.mk 0) 0 0) : Card))).bind fun x11 =>
  some (x11.1, x11.2))
def slices_IndexFunc_pit_Card_pit_Card_l1 : Nat → (List Card) → (Card → Option Bool) → Int → Option (Ex Int Unit)
  | 0, _, _, _ => none
  | n + 1, s, f, x_v10 =>
    (bif decide (x_v10 < ((s.length : Nat) : Int)) then
    ((idx s x_v10).bind fun x14 =>
    ((f x14).bind fun x16 =>
    (bif x16 then
    some (Ex.ret x_v10)
    else
    slices_IndexFunc_pit_Card_pit_Card_l1 n s f (IntKind.i64.wrap (x_v10 + 1)))))
    else
    some (Ex.go ()))
def slices_IndexFunc_pit_Card_pit_Card (n : Nat) (s : List Card) (f : Card → Option Bool) : Option Int :=
  ((slices_IndexFunc_pit_Card_pit_Card_l1 n s f 0).bind fun o_6 => Ex.bind o_6 (fun r => some r) fun s_7 =>
  some (-1))
def slices_ContainsFunc_pit_Card_pit_Card (n : Nat) (s : List Card) (f : Card → Option Bool) : Option Bool :=
  ((slices_IndexFunc_pit_Card_pit_Card n s f).bind fun x7 =>
  some (decide (x7 ≥ 0)))
def pit_all_pit_Card_1 (n : Nat) (x : Card) (q0 : Card → Option Bool) : Option Bool :=
  ((q0 x).bind fun x6 =>
  some (!x6))
def pit_all_pit_Card (n : Nat) (l : List Card) (right : Card → Option Bool) : Option Bool :=
  ((slices_ContainsFunc_pit_Card_pit_Card n l (fun (y0 : Card) => pit_all_pit_Card_1 n y0 right)).bind fun x7 =>
  some (!x7))
def pit_within (n : Nat) (n_ : Int) (low : Int) (high : Int) : Option Bool :=
  (bif decide (low ≤ n_) then
  some (decide (n_ ≤ high))
  else
  some false)
def pit_minute (n : Nat) (n_ : Int) : Option Bool :=
  ((pit_within n n_ 0 1000000).bind fun x4 =>
  some x4)
def pit_Card_parted (n : Nat) (c : Card) : Option Bool :=
  ((pit_within n c.part 0 15).bind fun x5 =>
  (bif x5 then
  some (c.sg == 0)
  else
  some false))
def pit_Card_signing (n : Nat) (c : Card) : Option Bool :=
  (bif (c.part == 0) then
  ((pit_within n c.sg 1 999).bind fun x9 =>
  some x9)
  else
  some false)
def pit_Card_bare (n : Nat) (c : Card) : Option Bool :=
  (bif (c.part == 0) then
  some (c.sg == 0)
  else
  some false)
def pit_kinds (n : Nat)  : Option (List Kind) :=
  some ([(Kind.mk (fun (y0 : Card) => pit_Card_parted n y0)), (Kind.mk (fun (y0 : Card) => pit_Card_parted n y0)), (Kind.mk (fun (y0 : Card) => pit_Card_signing n y0)), (Kind.mk (fun (y0 : Card) => pit_Card_bare n y0))] : List Kind)
def pit_Card_valid (n : Nat) (c : Card) : Option Bool :=
  ((pit_within n c.bus 0 99).bind fun x5 =>
  (bif x5 then
  ((pit_within n c.number 1 999).bind fun x9 =>
  (bif x9 then
  ((pit_minute n c.minute).bind fun x14 =>
  (bif x14 then
  ((pit_kinds n ).bind fun x20 =>
  (bif decide ((IntKind.i64.wrap c.kind.n) < ((x20.length : Nat) : Int)) then
  ((pit_kinds n ).bind fun x25 =>
  ((idx x25 c.kind.n).bind fun x28 =>
  ((x28.right c).bind fun x32 =>
  some x32)))
  else
  some false))
  else
  some false))
  else
  some false))
  else
  some false))
def pit_Card_mended (n : Nat) (c : Card) (d : Card) : Option Bool :=
  (((bif (c.bus != d.bus) then
  some true
  else
  some (decide (c.minute < d.minute))) : Option Bool).bind fun o_13 =>
  (bif o_13 then
  some false
  else
  (bif (c.kind.n == 2) then
  (bif (c.sg == d.number) then
  some true
  else
  (bif (c.kind.n == 3) then
  some (d.kind.n == 0)
  else
  some false))
  else
  (bif (c.kind.n == 3) then
  some (d.kind.n == 0)
  else
  some false))))
def pit_Card_defect (n : Nat) (c : Card) : Option Bool :=
  (bif (c.kind.n == 0) then
  some true
  else
  some (c.kind.n == 1))
def slices_Index_int_int_l1 : Nat → (List Int) → Int → Int → Option (Ex Int Unit)
  | 0, _, _, _ => none
  | n + 1, s, v, x_v10 =>
    (bif decide (x_v10 < ((s.length : Nat) : Int)) then
    ((idx s x_v10).bind fun x14 =>
    (bif (v == x14) then
    some (Ex.ret x_v10)
    else
    slices_Index_int_int_l1 n s v (IntKind.i64.wrap (x_v10 + 1))))
    else
    some (Ex.go ()))
def slices_Index_int_int (n : Nat) (s : List Int) (v : Int) : Option Int :=
  ((slices_Index_int_int_l1 n s v 0).bind fun o_6 => Ex.bind o_6 (fun r => some r) fun s_7 =>
  some (-1))
def slices_Contains_int_int (n : Nat) (s : List Int) (v : Int) : Option Bool :=
  ((slices_Index_int_int n s v).bind fun x7 =>
  some (decide (x7 ≥ 0)))
def pit_read_l1 : Nat → (List Card) → (List Int) → Int → (List (Int × Card)) → Option (Ex ((Option (Bx Book)) × Int) ((List Int) × (List (Int × Card))))
  | 0, _, _, _, _ => none
  | n + 1, l, x_v10, x_v11, x_v12 =>
    (bif decide (x_v11 < ((l.length : Nat) : Int)) then
    ((idx l x_v11).bind fun x24 =>
    ((pit_cards_card n (IMap.mk x_v12) x24.number).bind fun x33 =>
    (((bif x33.2 then
    some (!((x33.1.bus == x24.bus) && ((x33.1.number == x24.number) && ((x33.1.minute == x24.minute) && ((x33.1.kind.n == x24.kind.n) && ((x33.1.part == x24.part) && ((x33.1.sg == x24.sg) && true)))))))
    else
    some false) : Option Bool).bind fun o_114 =>
    (bif o_114 then
    some (Ex.ret (none, 6))
    else
    (bif (!x33.2) then
    ((app x_v10 ([x24.number] : List Int)).bind fun x59 =>
    pit_read_l1 n l x59 (IntKind.i64.wrap (x_v11 + 1)) (put? x_v12 x24.number x24))
    else
    pit_read_l1 n l x_v10 (IntKind.i64.wrap (x_v11 + 1)) x_v12)))))
    else
    some (Ex.go (x_v10, x_v12)))
def pit_read (n : Nat) (l : List Card) : Option ((Option (Bx Book)) × Int) :=
  (bif decide (((l.length : Nat) : Int) > 40) then
  some (none, 3)
  else
  ((pit_all_pit_Card n l (fun (y0 : Card) => pit_Card_valid n y0)).bind fun x15 =>
  (bif (!x15) then
  some (none, 1)
  else
  ((pit_read_l1 n l ([] : List Int) 0 ([] : List (Int × Card))).bind fun o_57 => Ex.bind o_57 (fun r => some r) fun s_58 =>
  ((sortO s_58.1).bind fun u_211 =>
  some ((some (Bx.mk (Book.mk (IMap.mk s_58.2) u_211))), 0))))))
def pit_book_open_l1 : Nat → Card → Int → (Bool → Prop) → (List (Int × Card)) → ((List (Int × Card)) → Prop) → Prop
  | 0, _, _, _, _, _ => False
  | n + 1, d, at_, Q, x_v10, K =>
    ((x_v10 = [] →
    K x_v10) ∧ (∀ k_57 x_58 rem_60, List.Perm x_v10 ((k_57, x_58) :: rem_60) →
    (bif decide (x_58.minute ≤ at_) then
    (∃ x29, (pit_Card_mended n x_58 d) = some x29 ∧
    (bif x29 then
    Q false
    else
    pit_book_open_l1 n d at_ Q rem_60 K))
    else
    pit_book_open_l1 n d at_ Q rem_60 K)))
def pit_book_open (n : Nat) (b : Bx Book) (d : Card) (at_ : Int) (Q : Bool → Prop) : Prop :=
  (bif decide (d.minute > at_) then
  Q false
  else
  (pit_book_open_l1 n d at_ Q b.v.cards.l (fun s_37 =>
  Q true)))
def mendB (c d : Card) : Bool := !(c.bus != d.bus || decide (c.minute < d.minute)) && (c.kind.n == 2 && c.sg == d.number || c.kind.n == 3 && d.kind.n == 0)
theorem pit_Card_mended_eq (n : Nat) (c d : Card) : pit_Card_mended n c d = some (mendB c d) := by
  unfold pit_Card_mended mendB
  cases c.bus != d.bus <;> cases decide (c.minute < d.minute) <;> cases c.kind.n == 2 <;> cases c.sg == d.number <;> cases c.kind.n == 3 <;> simp
def openB (b : Bx Book) (d : Card) (at_ : Int) : Bool := !decide (d.minute > at_) && b.v.cards.l.all fun p => !(decide (p.2.minute ≤ at_) && mendB p.2 d)
def pit_book_openL (n : Nat) (b : Bx Book) (d : Card) (at_ : Int) : Option Bool := if b.v.cards.l.length < n then some (openB b d at_) else none
def pit_book_defects_1_l1 {σ : Type} : Nat → (σ → Card → Option (σ × Bool)) → (Bx Book) → Int → Int → σ → Option (Ex σ σ)
  | 0, _, _, _, _, _ => none
  | n + 1, yield_, q0, q1, x_v10, x_v11 =>
    (bif decide (x_v10 < ((q0.v.numbers.length : Nat) : Int)) then
    ((idx q0.v.numbers x_v10).bind fun x14 =>
    ((some (lookD q0.v.cards.l x14 ((Card.mk 0 0 0 (IK.mk 0) 0 0) : Card))).bind fun x21 =>
    (bif (x21.1.bus == q1) then
    ((pit_Card_defect n x21.1).bind fun x28 =>
    (bif x28 then
    ((yield_ x_v11 x21.1).bind fun x33 =>
    (bif (!x33.2) then
    some (Ex.ret x33.1)
    else
    pit_book_defects_1_l1 n yield_ q0 q1 (IntKind.i64.wrap (x_v10 + 1)) x33.1))
    else
    pit_book_defects_1_l1 n yield_ q0 q1 (IntKind.i64.wrap (x_v10 + 1)) x_v11))
    else
    pit_book_defects_1_l1 n yield_ q0 q1 (IntKind.i64.wrap (x_v10 + 1)) x_v11)))
    else
    some (Ex.go x_v11))
def pit_book_defects_1 {σ : Type} (n : Nat) (yield_ : σ → Card → Option (σ × Bool)) (s : σ) (q0 : Bx Book) (q1 : Int) : Option σ :=
  ((pit_book_defects_1_l1 n yield_ q0 q1 0 s).bind fun o_22 => Ex.bind o_22 (fun r => some r) fun s_23 =>
  some s_23)
def pit_book_defects (n : Nat) (b : Bx Book) (bus : Int) : Option ((Bx Book) × Int) :=
  some (b, bus)
def pit_book_opens (n : Nat) (b : Bx Book) (bus : Int) (at_ : Int) : Option (List Int) :=
  ((pit_book_defects n b bus).bind fun x13 =>
  ((pit_book_defects_1 n (fun (s : List Int) (x14 : Card) => (((((fun (y0 : Card) (y1 : Int) => pit_book_openL n b y0 y1) x14 at_).bind fun x18 =>
  (bif x18 then
  ((app s ([x14.number] : List Int)).bind fun x23 =>
  some x23)
  else
  some s)) : Option (List Int)).bind fun s1 => some (s1, true))) ([] : List Int) x13.1 x13.2).bind fun o_57 =>
  some o_57))
def pit_Open (n : Nat) (l : List Card) (bus : Int) (at_ : Int) : Option ((List Int) × Int) :=
  ((pit_read n l).bind fun x12 =>
  (ptrCase x12.1
  ((bif (x12.2 != 0) then
  some (([] : List Int), x12.2)
  else
  ((((pit_within n bus 0 99).bind fun x21 =>
  (bif (!x21) then
  some true
  else
  ((pit_minute n at_).bind fun x25 =>
  some (!x25)))) : Option Bool).bind fun o_24 =>
  (bif o_24 then
  some (([] : List Int), 2)
  else
  none))))
  (fun bk_12 =>
  (bif (x12.2 != 0) then
  some (([] : List Int), x12.2)
  else
  ((((pit_within n bus 0 99).bind fun x21 =>
  (bif (!x21) then
  some true
  else
  ((pit_minute n at_).bind fun x25 =>
  some (!x25)))) : Option Bool).bind fun o_87 =>
  (bif o_87 then
  some (([] : List Int), 2)
  else
  ((pit_book_opens n bk_12 bus at_).bind fun x31 =>
  some (x31, 0))))))))
def pit_Fit_l1 : Nat → Int → (Bx Book) → (List Int) → (List (Int × Card)) → (((List Int) × (List (Int × Card))) → Prop) → Prop
  | 0, _, _, _, _, _ => False
  | n + 1, at_, bk_12, x_v10, x_v11, K =>
    ((x_v11 = [] →
    K (x_v10, x_v11)) ∧ (∀ k_124 x_125 rem_127, List.Perm x_v11 ((k_124, x_125) :: rem_127) →
    (∃ x36, (slices_Contains_int_int n x_v10 x_125.bus) = some x36 ∧
    (bif (!x36) then
    (∃ x43, (pit_book_opens n bk_12 x_125.bus at_) = some x43 ∧
    (bif (((x43.length : Nat) : Int) == 0) then
    (∃ x51, (app x_v10 ([x_125.bus] : List Int)) = some x51 ∧
    pit_Fit_l1 n at_ bk_12 x51 rem_127 K)
    else
    pit_Fit_l1 n at_ bk_12 x_v10 rem_127 K))
    else
    pit_Fit_l1 n at_ bk_12 x_v10 rem_127 K))))
def pit_Fit (n : Nat) (l : List Card) (at_ : Int) (Q : ((List Int) × Int) → Prop) : Prop :=
  (∃ x13, (pit_read n l) = some x13 ∧
  (ptrCase x13.1
  ((bif (x13.2 != 0) then
  Q (([] : List Int), x13.2)
  else
  (∃ x22, (pit_minute n at_) = some x22 ∧
  (bif (!x22) then
  Q (([] : List Int), 2)
  else
  False))))
  (fun bk_12 =>
  (bif (x13.2 != 0) then
  Q (([] : List Int), x13.2)
  else
  (∃ x22, (pit_minute n at_) = some x22 ∧
  (bif (!x22) then
  Q (([] : List Int), 2)
  else
  (pit_Fit_l1 n at_ bk_12 ([] : List Int) bk_12.v.cards.l (fun s_104 =>
  (∃ u_220, (sortO s_104.1) = some u_220 ∧
  Q (u_220, 0))))))))))
theorem pf_w (i : Nat) (h : i < 1000000000000) : IntKind.i64.wrap ((i : Int) + 1) = ((i + 1 : Nat) : Int) := by
  simp [IntKind.wrap, IntKind.bits, IntKind.signed]; omega
theorem pf_lt {α : Type} (xs : List α) (i : Nat) : decide ((i : Int) < ((xs.length : Nat) : Int)) = decide (i < xs.length) := by
  by_cases h : i < xs.length <;> simp [h]
theorem pf_idx {α : Type} (xs : List α) (i : Nat) (h : i < xs.length) : idx xs (i : Int) = some xs[i] := by
  show xs[i]? = _
  rw [List.getElem?_eq_getElem h]
theorem pf_app {α : Type} (xs ys : List α) (h : xs.length + ys.length ≤ 1000000000) : app xs ys = some (xs ++ ys) := by
  unfold app; rw [if_pos (by simpa using h)]
def defectC (c : Card) : Bool := c.kind.n == 0 || c.kind.n == 1
theorem pit_Card_defect_eq (n : Nat) (c : Card) : pit_Card_defect n c = some (defectC c) := by
  unfold pit_Card_defect defectC
  cases c.kind.n == 0 <;> rfl
def bookAt (b : Bx Book) (k : Int) : Card := (lookD b.v.cards.l k (Card.mk 0 0 0 (IK.mk 0) 0 0)).1
def opensOf (b : Bx Book) (bus at_ : Int) (l : List Int) : List Int := ((l.map (bookAt b)).filter fun c => c.bus == bus && (defectC c && openB b c at_)).map (·.number)
def opensB (b : Bx Book) (bus at_ : Int) : List Int := opensOf b bus at_ b.v.numbers
theorem pit_book_defects_1_l1_eq (b : Bx Book) (bus at_ : Int) (y : List Int → Card → Option (List Int × Bool)) (hb : b.v.numbers.length ≤ 1000000)
    (hy : ∀ s c, s.length ≤ 1000000 → y s c = some (if openB b c at_ then s ++ [c.number] else s, true)) :
    ∀ (n i : Nat) (acc : List Int), b.v.numbers.length < n + i → i ≤ b.v.numbers.length → acc.length ≤ i → pit_book_defects_1_l1 n y b bus (i : Int) acc = some (Ex.go (acc ++ opensOf b bus at_ (b.v.numbers.drop i)))
  | 0, i, acc, h, hi, _ => by omega
  | n + 1, i, acc, h, hi, ha => by
    rw [pit_book_defects_1_l1, pf_lt]
    by_cases hx : i < b.v.numbers.length
    · have hd : b.v.numbers.drop i = b.v.numbers[i] :: b.v.numbers.drop (i + 1) := List.drop_eq_getElem_cons hx
      have IH := fun acc' (h' : acc'.length ≤ i + 1) => pit_book_defects_1_l1_eq b bus at_ y hb hy n (i + 1) acc' (by omega) (by omega) h'
      simp only [hx, decide_true, cond_true, pf_idx _ _ hx, Option.bind_some, pit_Card_defect_eq]
      rw [hd, pf_w i (by omega)]
      have hB : (lookD b.v.cards.l b.v.numbers[i] (Card.mk 0 0 0 (IK.mk 0) 0 0)).1 = bookAt b b.v.numbers[i] := rfl
      simp only [hB, opensOf, List.map_cons, List.filter_cons]
      cases h1 : (bookAt b b.v.numbers[i]).bus == bus with
      | false => simpa [opensOf] using IH acc (by omega)
      | true =>
        cases h2 : defectC (bookAt b b.v.numbers[i]) with
        | false => simpa [opensOf] using IH acc (by omega)
        | true =>
          simp only [cond_true, hy acc _ (by omega), Option.bind_some, Bool.not_true, cond_false]
          cases h3 : openB b (bookAt b b.v.numbers[i]) at_ with
          | false => simpa [opensOf] using IH acc (by omega)
          | true => simpa [opensOf, List.append_assoc] using IH (acc ++ [(bookAt b b.v.numbers[i]).number]) (by simp; omega)
    · have : i = b.v.numbers.length := by omega
      subst this
      simp [opensOf]
theorem pit_book_opens_eq (n : Nat) (b : Bx Book) (bus at_ : Int) (h1 : b.v.numbers.length < n) (h2 : b.v.cards.l.length < n) (h3 : b.v.numbers.length ≤ 1000000) : pit_book_opens n b bus at_ = some (opensB b bus at_) := by
  unfold pit_book_opens pit_book_defects pit_book_defects_1
  simp only [Option.bind_some]
  have := pit_book_defects_1_l1_eq b bus at_ (fun (s : List Int) (x14 : Card) => (((((fun (y0 : Card) (y1 : Int) => pit_book_openL n b y0 y1) x14 at_).bind fun x18 =>
    (bif x18 then ((app s ([x14.number] : List Int)).bind fun x23 => some x23) else some s)) : Option (List Int)).bind fun s1 => some (s1, true))) h3 (fun s c hs => by
      simp only [pit_book_openL, if_pos h2, Option.bind_some]
      rw [pf_app _ _ (by simp; omega)]
      cases openB b c at_ <;> rfl) n 0 [] (by omega) (by omega) (by simp)
  rw [show ((0 : Nat) : Int) = 0 from rfl] at this
  rw [this]
  rfl
theorem slices_Index_int_int_l1_eq (s : List Int) (v : Int) (hs : s.length ≤ 1000000) : ∀ (n i : Nat), s.length < n + i → i ≤ s.length →
    ∃ r, slices_Index_int_int_l1 n s v (i : Int) = some r ∧ (if v ∈ s.drop i then ∃ k : Int, 0 ≤ k ∧ r = Ex.ret k else r = Ex.go ())
  | 0, i, h, hi => by omega
  | n + 1, i, h, hi => by
    rw [slices_Index_int_int_l1, pf_lt]
    by_cases hx : i < s.length
    · have hd : s.drop i = s[i] :: s.drop (i + 1) := List.drop_eq_getElem_cons hx
      simp only [hx, decide_true, cond_true, pf_idx _ _ hx, Option.bind_some]
      rw [pf_w i (by omega)]
      by_cases hv : v = s[i]
      · refine ⟨Ex.ret (i : Int), ?_, ?_⟩
        · have : (v == s[i]) = true := by simp [hv]
          rw [this]; rfl
        · rw [if_pos (by rw [hd, hv]; exact List.mem_cons_self ..)]; exact ⟨i, by omega, rfl⟩
      · obtain ⟨r, h1, h2⟩ := slices_Index_int_int_l1_eq s v hs n (i + 1) (by omega) (by omega)
        refine ⟨r, ?_, ?_⟩
        · have : (v == s[i]) = false := by simp [hv]
          rw [this]; exact h1
        · rw [hd]; simp only [List.mem_cons, hv, false_or]; exact h2
    · have : i = s.length := by omega
      subst this
      exact ⟨Ex.go (), by simp, by simp⟩
theorem slices_Contains_int_int_eq (n : Nat) (s : List Int) (v : Int) (h : s.length < n) (hs : s.length ≤ 1000000) : slices_Contains_int_int n s v = some (decide (v ∈ s)) := by
  unfold slices_Contains_int_int slices_Index_int_int
  obtain ⟨r, h1, h2⟩ := slices_Index_int_int_l1_eq s v hs n 0 (by omega) (by omega)
  rw [show ((0 : Nat) : Int) = 0 from rfl] at h1
  rw [h1]
  simp only [List.drop_zero] at h2
  split at h2
  · rename_i hm
    obtain ⟨k, hk, rfl⟩ := h2
    simp [Ex.bind, hm, hk]
  · rename_i hm
    subst h2
    simp [Ex.bind, hm]
def ddup : List Int → List Int
  | [] => []
  | x :: r => if x ∈ r then ddup r else x :: ddup r
theorem mem_ddup {x : Int} : ∀ {l : List Int}, x ∈ ddup l ↔ x ∈ l
  | [] => Iff.rfl
  | y :: r => by
    unfold ddup
    split
    · rename_i h
      rw [mem_ddup, List.mem_cons]
      exact ⟨Or.inr, fun h' => h'.elim (fun e => e ▸ h) id⟩
    · rw [List.mem_cons, List.mem_cons, mem_ddup]
theorem nodup_ddup : ∀ (l : List Int), (ddup l).Nodup
  | [] => List.nodup_nil
  | y :: r => by
    unfold ddup
    split
    · exact nodup_ddup r
    · rename_i h
      exact List.nodup_cons.2 ⟨fun h' => h (mem_ddup.1 h'), nodup_ddup r⟩
theorem pf_perm : ∀ {l l' : List Int}, l.Nodup → l'.Nodup → (∀ x, x ∈ l ↔ x ∈ l') → List.Perm l l'
  | [], l', _, _, h => by
    have : l' = [] := List.eq_nil_iff_forall_not_mem.2 fun x hx => by simpa using (h x).2 hx
    rw [this]
  | x :: r, l', h1, h2, h => by
    have hx : x ∈ l' := (h x).1 (by simp)
    have h3 := List.perm_cons_erase hx
    have hn := (List.nodup_cons.1 (h3.nodup_iff.1 h2)).1
    refine (List.Perm.cons x (pf_perm (List.nodup_cons.1 h1).2 (h2.erase x) fun y => ?_)).trans h3.symm
    constructor
    · intro hy
      have hne : y ≠ x := fun e => (List.nodup_cons.1 h1).1 (e ▸ hy)
      exact (List.mem_erase_of_ne hne).2 ((h y).1 (by simp [hy]))
    · intro hy
      have hne : y ≠ x := fun e => hn (e ▸ hy)
      have := (h y).2 ((List.mem_erase_of_ne hne).1 hy)
      simpa [hne] using this
theorem sortI_congr {l l' : List Int} (h : List.Perm l l') : sortI l = sortI l' := by
  have s := fun (l : List Int) => List.pairwise_mergeSort (le := fun x y : Int => decide (x ≤ y)) (by intro a b c; simp; omega) (by intro a b; simp; omega) l
  have p := fun (l : List Int) => List.mergeSort_perm l (fun x y : Int => decide (x ≤ y))
  refine List.Perm.eq_of_pairwise ?_ (s l) (s l') ((p l).trans (h.trans (p l').symm))
  intro a b _ _ h1 h2
  simp at h1 h2
  omega
def fitB (b : Bx Book) (at_ : Int) : List Int := sortI ((ddup (b.v.cards.l.map fun p => p.2.bus)).filter fun x => (opensB b x at_).isEmpty)
def pit_FitL (n : Nat) (l : List Card) (at_ : Int) : Option (List Int × Int) :=
  (pit_read n l).bind fun x =>
  if x.2 ≠ 0 then some ([], x.2) else
  if ¬ (0 ≤ at_ ∧ at_ ≤ 1000000) then some ([], 2) else
  match x.1 with
  | none => none
  | some b => if b.v.numbers.length + b.v.cards.l.length + b.v.cards.l.length + 2 < n ∧ b.v.numbers.length ≤ 1000 ∧ b.v.cards.l.length ≤ 1000 then some (fitB b at_, 0) else none
theorem pit_Fit_l1_of (at_ : Int) (b : Bx Book) (M : Nat) (h1 : b.v.numbers.length < M) (h2 : b.v.cards.l.length < M) (h3 : b.v.numbers.length ≤ 1000) :
    ∀ (n : Nat) (rem : List (Int × Card)) (acc : List Int) (K : List Int × List (Int × Card) → Prop), rem.length + M ≤ n → acc.length + rem.length < M → acc.length + rem.length ≤ 1000 → acc.Nodup →
    (∀ acc', acc'.length ≤ acc.length + rem.length → acc'.Nodup → (∀ x, x ∈ acc' ↔ x ∈ acc ∨ (opensB b x at_ = [] ∧ ∃ p ∈ rem, p.2.bus = x)) → K (acc', [])) → pit_Fit_l1 n at_ b acc rem K
  | 0, rem, acc, K, h, h5, _, _, _ => by omega
  | n + 1, rem, acc, K, h, h5, h6, h7, hK => by
    rw [pit_Fit_l1]
    refine ⟨fun h0 => by subst h0; exact hK acc (by simp) h7 (by simp), fun k x rem' hp => ?_⟩
    have hl := hp.length_eq
    simp only [List.length_cons] at hl
    refine ⟨_, slices_Contains_int_int_eq n acc x.bus (by omega) (by omega), ?_⟩
    have hm : ∀ y, (∃ p ∈ rem, p.2.bus = y) ↔ x.bus = y ∨ ∃ p ∈ rem', p.2.bus = y := fun y => by
      constructor
      · rintro ⟨p, hp', rfl⟩
        rcases List.mem_cons.1 (hp.mem_iff.1 hp') with rfl | hh
        · exact Or.inl rfl
        · exact Or.inr ⟨p, hh, rfl⟩
      · rintro (rfl | ⟨p, hp', rfl⟩)
        · exact ⟨(k, x), hp.mem_iff.2 (by simp), rfl⟩
        · exact ⟨p, hp.mem_iff.2 (by simp [hp']), rfl⟩
    by_cases hc : x.bus ∈ acc
    · simp only [hc, decide_true, Bool.not_true, cond_false]
      refine pit_Fit_l1_of at_ b M h1 h2 h3 n rem' acc K (by omega) (by omega) (by omega) h7 fun acc' q1 q2 q3 => hK acc' (by omega) q2 fun y => ?_
      rw [q3, hm]
      constructor
      · rintro (h' | ⟨h', h''⟩)
        · exact Or.inl h'
        · exact Or.inr ⟨h', Or.inr h''⟩
      · rintro (h' | ⟨h', rfl | h''⟩)
        · exact Or.inl h'
        · exact Or.inl hc
        · exact Or.inr ⟨h', h''⟩
    · simp only [hc, decide_false, Bool.not_false, cond_true]
      refine ⟨_, pit_book_opens_eq n b x.bus at_ (by omega) (by omega) (by omega), ?_⟩
      by_cases ho : opensB b x.bus at_ = []
      · have : ((((opensB b x.bus at_).length : Nat) : Int) == 0) = true := by simp [ho]
        rw [this, cond_true]
        refine ⟨_, pf_app acc [x.bus] (by simp; omega), ?_⟩
        refine pit_Fit_l1_of at_ b M h1 h2 h3 n rem' (acc ++ [x.bus]) K (by omega) (by simp; omega) (by simp; omega) (by
          refine List.nodup_append.2 ⟨h7, by simp, ?_⟩
          intro a ha c hc'
          rw [List.mem_singleton] at hc'
          exact fun e => hc (hc' ▸ e ▸ ha)) fun acc' q1 q2 q3 => hK acc' (by simp at q1; omega) q2 fun y => ?_
        rw [q3, hm, List.mem_append, List.mem_singleton]
        constructor
        · rintro ((h' | rfl) | ⟨h', h''⟩)
          · exact Or.inl h'
          · exact Or.inr ⟨ho, Or.inl rfl⟩
          · exact Or.inr ⟨h', Or.inr h''⟩
        · rintro (h' | ⟨h', rfl | h''⟩)
          · exact Or.inl (Or.inl h')
          · exact Or.inl (Or.inr rfl)
          · exact Or.inr ⟨h', h''⟩
      · have : ((((opensB b x.bus at_).length : Nat) : Int) == 0) = false := by
          have : (opensB b x.bus at_).length ≠ 0 := fun e => ho (List.eq_nil_of_length_eq_zero e)
          simp [ho]
        rw [this, cond_false]
        refine pit_Fit_l1_of at_ b M h1 h2 h3 n rem' acc K (by omega) (by omega) (by omega) h7 fun acc' q1 q2 q3 => hK acc' (by omega) q2 fun y => ?_
        rw [q3, hm]
        constructor
        · rintro (h' | ⟨h', h''⟩)
          · exact Or.inl h'
          · exact Or.inr ⟨h', Or.inr h''⟩
        · rintro (h' | ⟨h', rfl | h''⟩)
          · exact Or.inl h'
          · exact absurd h' ho
          · exact Or.inr ⟨h', h''⟩
theorem pit_minute_eq (n : Nat) (x : Int) : pit_minute n x = some (decide (0 ≤ x) && decide (x ≤ 1000000)) := by
  unfold pit_minute pit_within
  cases decide (0 ≤ x) <;> rfl
theorem pit_Fit_of {n : Nat} {l : List Card} {at_ : Int} {r : List Int × Int} (H : pit_FitL n l at_ = some r) : pit_Fit n l at_ (fun x => x = r) := by
  unfold pit_FitL at H
  obtain ⟨x, hx, H⟩ := Option.bind_eq_some_iff.1 H
  refine ⟨x, hx, ?_⟩
  by_cases h1 : x.2 = 0
  · have e1 : (x.2 != 0) = false := by simp [h1]
    rw [if_neg (by simpa using h1)] at H
    simp only [e1, cond_false, pit_minute_eq]
    by_cases h2 : 0 ≤ at_ ∧ at_ ≤ 1000000
    · rw [if_neg (by simpa using h2)] at H
      have e2 : (!(decide (0 ≤ at_) && decide (at_ ≤ 1000000))) = false := by simp [h2]
      cases hb : x.1 with
      | none => rw [hb] at H; cases H
      | some b =>
        rw [hb] at H
        simp only at H
        split at H
        · rename_i hc
          cases H
          refine ⟨_, rfl, ?_⟩
          rw [e2, cond_false]
          refine pit_Fit_l1_of at_ b (b.v.numbers.length + b.v.cards.l.length + 1) (by omega) (by omega) (by omega) n _ [] _ (by omega) (by simp; omega) (by simp; omega) List.nodup_nil fun acc' q1 q2 q3 => ?_
          refine ⟨sortI acc', ?_, ?_⟩
          · simp only [List.length_nil] at q1
            unfold sortO; rw [if_pos (by simp; omega)]
          · rw [fitB, sortI_congr (pf_perm q2 ((nodup_ddup _).filter _) fun y => ?_)]
            rw [q3, List.mem_filter, mem_ddup, List.mem_map]
            simp [and_comm]
        · cases H
    · rw [if_pos (by simpa using h2)] at H
      cases H
      have e2 : (!(decide (0 ≤ at_) && decide (at_ ≤ 1000000))) = true := by
        cases ha : decide (0 ≤ at_) <;> cases hc : decide (at_ ≤ 1000000) <;> first | rfl | exact absurd ⟨of_decide_eq_true ha, of_decide_eq_true hc⟩ h2
      cases hb : x.1 <;> exact ⟨_, rfl, by rw [e2]; rfl⟩
  · have e1 : (x.2 != 0) = true := by simp [h1]
    rw [if_pos (by simpa using h1)] at H
    cases H
    cases hb : x.1 with
    | none => rw [ptrCase_none, e1]; rfl
    | some b => rw [ptrCase_some, e1]; rfl
def pit_Range_upto (n : Nat) (r_ : Rg) (most : Int) : Option Bool :=
  (bif decide (0 ≤ r_.lo) then
  (bif decide (r_.lo ≤ r_.hi) then
  some (decide (r_.hi ≤ most))
  else
  some false)
  else
  some false)
def pit_Wear_valid (n : Nat) (w_ : Wear) : Option Bool :=
  ((pit_Range_upto n w_.miles 100000).bind fun x5 =>
  (bif x5 then
  ((pit_Range_upto n w_.daily 1000).bind fun x9 =>
  (bif x9 then
  ((pit_within n w_.age 0 1000).bind fun x14 =>
  (bif x14 then
  ((pit_within n w_.far 1 100000).bind fun x19 =>
  (bif x19 then
  ((pit_within n w_.long 1 1000).bind fun x24 =>
  some x24)
  else
  some false))
  else
  some false))
  else
  some false))
  else
  some false))
def slices_Max_int_int_l1 : Nat → (List Int) → Int → Int → Option Int
  | 0, _, _, _ => none
  | n + 1, x, x_v10, x_v11 =>
    (bif decide (x_v10 < ((x.length : Nat) : Int)) then
    ((idx x x_v10).bind fun x21 =>
    slices_Max_int_int_l1 n x (IntKind.i64.wrap (x_v10 + 1)) (if x21 > x_v11 then x21 else x_v11))
    else
    some x_v11)
def slices_Max_int_int (n : Nat) (x : List Int) : Option Int :=
  (bif decide (((x.length : Nat) : Int) < 1) then
  none
  else
  ((idx x 0).bind fun x10 =>
  ((slices_Max_int_int_l1 n x 1 x10).bind fun o_25 =>
  some o_25)))
def pit_later (n : Nat) (l : List Int) : Option Int :=
  ((slices_Max_int_int n l).bind fun x4 =>
  some x4)
def pit_Wear_first_l1 : Nat → Wear → Int → Int → Int → Int → Option (Ex Int Unit)
  | 0, _, _, _, _, _ => none
  | n + 1, w_, miles, daily, x15, x_v10 =>
    (bif decide (x_v10 < x15) then
    (bif decide ((IntKind.i64.wrap (miles + (IntKind.i64.wrap (x_v10 * daily)))) ≥ w_.far) then
    some (Ex.ret x_v10)
    else
    pit_Wear_first_l1 n w_ miles daily x15 (IntKind.i64.wrap (x_v10 + 1)))
    else
    some (Ex.go ()))
def pit_Wear_first (n : Nat) (w_ : Wear) (miles : Int) (daily : Int) : Option Int :=
  ((pit_later n ([0, IntKind.i64.wrap (w_.long - w_.age)] : List Int)).bind fun x15 =>
  ((pit_Wear_first_l1 n w_ miles daily x15 0).bind fun o_34 => Ex.bind o_34 (fun r => some r) fun s_35 =>
  some x15))
def pit_Due (n : Nat) (w_ : Wear) : Option (Int × Int × Int) :=
  ((pit_Wear_valid n w_).bind fun x6 =>
  (bif (!x6) then
  some (0, 0, 1)
  else
  ((pit_Wear_first n w_ w_.miles.hi w_.daily.hi).bind fun x15 =>
  ((pit_Wear_first n w_ w_.miles.lo w_.daily.lo).bind fun x23 =>
  some (x15, x23, 0)))))
def slices_IndexFunc_int_int_l1 : Nat → (List Int) → (Int → Option Bool) → Int → Option (Ex Int Unit)
  | 0, _, _, _ => none
  | n + 1, s, f, x_v10 =>
    (bif decide (x_v10 < ((s.length : Nat) : Int)) then
    ((idx s x_v10).bind fun x14 =>
    ((f x14).bind fun x16 =>
    (bif x16 then
    some (Ex.ret x_v10)
    else
    slices_IndexFunc_int_int_l1 n s f (IntKind.i64.wrap (x_v10 + 1)))))
    else
    some (Ex.go ()))
def slices_IndexFunc_int_int (n : Nat) (s : List Int) (f : Int → Option Bool) : Option Int :=
  ((slices_IndexFunc_int_int_l1 n s f 0).bind fun o_6 => Ex.bind o_6 (fun r => some r) fun s_7 =>
  some (-1))
def slices_ContainsFunc_int_int (n : Nat) (s : List Int) (f : Int → Option Bool) : Option Bool :=
  ((slices_IndexFunc_int_int n s f).bind fun x7 =>
  some (decide (x7 ≥ 0)))
def pit_all_int_1 (n : Nat) (x : Int) (q0 : Int → Option Bool) : Option Bool :=
  ((q0 x).bind fun x6 =>
  some (!x6))
def pit_all_int (n : Nat) (l : List Int) (right : Int → Option Bool) : Option Bool :=
  ((slices_ContainsFunc_int_int n l (fun (y0 : Int) => pit_all_int_1 n y0 right)).bind fun x7 =>
  some (!x7))
def pit_Shop_check_1 (n : Nat) (n_ : Int) : Option Bool :=
  ((pit_within n n_ 0 160).bind fun x4 =>
  some x4)
def slices_IndexFunc_pit_Job_pit_Job_l1 : Nat → (List Job) → (Job → Option Bool) → Int → Option (Ex Int Unit)
  | 0, _, _, _ => none
  | n + 1, s, f, x_v10 =>
    (bif decide (x_v10 < ((s.length : Nat) : Int)) then
    ((idx s x_v10).bind fun x14 =>
    ((f x14).bind fun x16 =>
    (bif x16 then
    some (Ex.ret x_v10)
    else
    slices_IndexFunc_pit_Job_pit_Job_l1 n s f (IntKind.i64.wrap (x_v10 + 1)))))
    else
    some (Ex.go ()))
def slices_IndexFunc_pit_Job_pit_Job (n : Nat) (s : List Job) (f : Job → Option Bool) : Option Int :=
  ((slices_IndexFunc_pit_Job_pit_Job_l1 n s f 0).bind fun o_6 => Ex.bind o_6 (fun r => some r) fun s_7 =>
  some (-1))
def slices_ContainsFunc_pit_Job_pit_Job (n : Nat) (s : List Job) (f : Job → Option Bool) : Option Bool :=
  ((slices_IndexFunc_pit_Job_pit_Job n s f).bind fun x7 =>
  some (decide (x7 ≥ 0)))
def pit_all_pit_Job_1 (n : Nat) (x : Job) (q0 : Job → Option Bool) : Option Bool :=
  ((q0 x).bind fun x6 =>
  some (!x6))
def pit_all_pit_Job (n : Nat) (l : List Job) (right : Job → Option Bool) : Option Bool :=
  ((slices_ContainsFunc_pit_Job_pit_Job n l (fun (y0 : Job) => pit_all_pit_Job_1 n y0 right)).bind fun x7 =>
  some (!x7))
def pit_Job_valid (n : Nat) (j : Job) : Option Bool :=
  ((pit_within n j.due 0 14).bind fun x5 =>
  (bif x5 then
  ((pit_within n j.work 1 20).bind fun x9 =>
  (bif x9 then
  ((pit_within n j.cost 0 1000).bind fun x14 =>
  some x14)
  else
  some false))
  else
  some false))
def pit_Shop_check (n : Nat) (s : Shop) : Option Int :=
  (bif decide (((s.buses.length : Nat) : Int) > 8) then
  some 3
  else
  ((pit_within n s.days 1 14).bind fun x12 =>
  (bif (!x12) then
  some 1
  else
  (bif (((s.pits.length : Nat) : Int) != s.days) then
  some 1
  else
  ((pit_all_int n s.pits (fun (y0 : Int) => pit_Shop_check_1 n y0)).bind fun x26 =>
  (bif (!x26) then
  some 1
  else
  ((pit_all_pit_Job n s.buses (fun (y0 : Job) => pit_Job_valid n y0)).bind fun x32 =>
  (bif (!x32) then
  some 1
  else
  some 0))))))))
def pit_Shop_cost (n : Nat) (s : Shop) (j : Job) (day : Int) : Option Int :=
  ((pit_later n ([0, IntKind.i64.wrap (day - j.due)] : List Int)).bind fun x13 =>
  (bif (day == (-1)) then
  ((pit_later n ([0, IntKind.i64.wrap (s.days - j.due)] : List Int)).bind fun x22 =>
  some (IntKind.i64.wrap ((IntKind.i64.wrap (x22 + 14)) * j.cost)))
  else
  some (IntKind.i64.wrap (x13 * j.cost))))
def slices_Clone_int_int (n : Nat) (s : List Int) : Option (List Int) :=
  ((app ([] : List Int) s).bind fun x7 =>
  some x7)
def pit_Short_l2 : Nat → Shop → Int → Int → Int → Option Int
  | 0, _, _, _, _ => none
  | n + 1, s, x_v10, x_v20, x_v21 =>
    (bif decide (x_v20 < ((s.buses.length : Nat) : Int)) then
    ((idx s.buses x_v20).bind fun x32 =>
    (bif decide (x32.due ≤ x_v10) then
    pit_Short_l2 n s x_v10 (IntKind.i64.wrap (x_v20 + 1)) (IntKind.i64.wrap (x_v21 + x32.work))
    else
    pit_Short_l2 n s x_v10 (IntKind.i64.wrap (x_v20 + 1)) x_v21))
    else
    some x_v21)
def pit_Short_l1 : Nat → Shop → Int → Int → Option (Ex (Int × Int) Unit)
  | 0, _, _, _ => none
  | n + 1, s, x_v10, x_v11 =>
    (bif decide (x_v10 < ((s.pits.length : Nat) : Int)) then
    ((idx s.pits x_v10).bind fun x22 =>
    ((pit_Short_l2 n s x_v10 0 0).bind fun o_76 =>
    (bif decide ((IntKind.i64.wrap (x_v11 + x22)) < o_76) then
    some (Ex.ret (x_v10, 0))
    else
    pit_Short_l1 n s (IntKind.i64.wrap (x_v10 + 1)) (IntKind.i64.wrap (x_v11 + x22)))))
    else
    some (Ex.go ()))
def pit_Short (n : Nat) (s : Shop) : Option (Int × Int) :=
  ((pit_Shop_check n s).bind fun x12 =>
  (bif (x12 != 0) then
  some (0, x12)
  else
  ((pit_Short_l1 n s 0 0).bind fun o_36 => Ex.bind o_36 (fun r => some r) fun s_37 =>
  some (0, 7))))
def pit_ProvePlan_l1 : Nat → Shop → (List Int) → Int → Int → Hours → Option (Ex Bool (Int × Hours))
  | 0, _, _, _, _, _ => none
  | n + 1, s, plan, x_v10, x_v11, x_v12 =>
    (bif decide (x_v10 < ((plan.length : Nat) : Int)) then
    ((idx plan x_v10).bind fun x29 =>
    ((pit_within n x29 (-1) (IntKind.i64.wrap (s.days - 1))).bind fun x35 =>
    (bif (!x35) then
    some (Ex.ret false)
    else
    (((bif (x29 != (-1)) then
    ((rng 14 x29).bind fun x40 =>
    ((idx x_v12.toL x29).bind fun x41 =>
    ((idx s.buses x_v10).bind fun x45 =>
    ((rng 14 x29).bind fun x49 =>
    ((Hours.setI x_v12 x29 (IntKind.i64.wrap (x41 + x45.work))).bind fun u_137 =>
    some u_137)))))
    else
    some x_v12) : Option Hours).bind fun o_104 =>
    ((idx s.buses x_v10).bind fun x55 =>
    ((pit_Shop_cost n s x55 x29).bind fun x58 =>
    pit_ProvePlan_l1 n s plan (IntKind.i64.wrap (x_v10 + 1)) (IntKind.i64.wrap (x_v11 + x58)) o_104))))))
    else
    some (Ex.go (x_v11, x_v12)))
def pit_ProvePlan_l2 : Nat → Shop → (Int × Hours) → Int → Option (Ex Bool Unit)
  | 0, _, _, _ => none
  | n + 1, s, s_55, x_v20 =>
    (bif decide (x_v20 < ((s.pits.length : Nat) : Int)) then
    ((idx s.pits x_v20).bind fun x67 =>
    ((rng 14 x_v20).bind fun x70 =>
    ((idx s_55.2.toL x_v20).bind fun x71 =>
    (bif decide (x71 > x67) then
    some (Ex.ret false)
    else
    pit_ProvePlan_l2 n s s_55 (IntKind.i64.wrap (x_v20 + 1))))))
    else
    some (Ex.go ()))
def pit_ProvePlan (n : Nat) (s : Shop) (plan : List Int) (most : Int) : Option Bool :=
  ((((pit_Shop_check n s).bind fun x14 =>
  (bif (x14 != 0) then
  some true
  else
  some (((plan.length : Nat) : Int) != ((s.buses.length : Nat) : Int)))) : Option Bool).bind fun o_14 =>
  (bif o_14 then
  some false
  else
  ((pit_ProvePlan_l1 n s plan 0 0 (Hours.mk 0 0 0 0 0 0 0 0 0 0 0 0 0 0)).bind fun o_54 => Ex.bind o_54 (fun r => some r) fun s_55 =>
  ((pit_ProvePlan_l2 n s s_55 0).bind fun o_184 => Ex.bind o_184 (fun r => some r) fun s_185 =>
  some (decide (s_55.1 ≤ most))))))
mutual
def pit_Best_1_l1 : Nat → Rest → Shop → Job → Int → (List Int) → Int → (List (Rest × Done)) → Option ((List Int) × Int × (List (Rest × Done)))
  | 0, _, _, _, _, _, _, _ => none
  | n + 1, r_, s_, x33, x_v10, x_v11, x_v12, x_v13 =>
    (bif decide (x_v10 < s_.days) then
    (bif (x_v10 != (-1)) then
    ((rng 14 x_v10).bind fun x51 =>
    ((idx r_.left.toL x_v10).bind fun x52 =>
    ((rng 14 x_v10).bind fun x57 =>
    ((Hours.setI r_.left x_v10 (IntKind.i64.wrap (x52 - x33.work))).bind fun u_147 =>
    ((rng 14 x_v10).bind fun x60 =>
    ((idx u_147.toL x_v10).bind fun x61 =>
    (bif decide (x61 < 0) then
    pit_Best_1_l1 n r_ s_ x33 (IntKind.i64.wrap (x_v10 + 1)) x_v11 x_v12 x_v13
    else
    ((pit_Best_1 n (Rest.mk (IntKind.i64.wrap (r_.bus + 1)) u_147) s_ x_v13).bind fun x65 =>
    ((pit_Shop_cost n s_ x33 x_v10).bind fun x71 =>
    (((bif (x_v10 == (-1)) then
    some true
    else
    some (decide ((IntKind.i64.wrap (x65.1.cost + x71)) < x_v12))) : Option Bool).bind fun o_212 =>
    (bif o_212 then
    ((app ([x_v10] : List Int) x65.1.plan).bind fun x85 =>
    pit_Best_1_l1 n r_ s_ x33 (IntKind.i64.wrap (x_v10 + 1)) x85 (IntKind.i64.wrap (x65.1.cost + x71)) x65.2)
    else
    pit_Best_1_l1 n r_ s_ x33 (IntKind.i64.wrap (x_v10 + 1)) x_v11 x_v12 x65.2)))))))))))
    else
    ((pit_Best_1 n (Rest.mk (IntKind.i64.wrap (r_.bus + 1)) r_.left) s_ x_v13).bind fun x65 =>
    ((pit_Shop_cost n s_ x33 x_v10).bind fun x71 =>
    (((bif (x_v10 == (-1)) then
    some true
    else
    some (decide ((IntKind.i64.wrap (x65.1.cost + x71)) < x_v12))) : Option Bool).bind fun o_312 =>
    (bif o_312 then
    ((app ([x_v10] : List Int) x65.1.plan).bind fun x85 =>
    pit_Best_1_l1 n r_ s_ x33 (IntKind.i64.wrap (x_v10 + 1)) x85 (IntKind.i64.wrap (x65.1.cost + x71)) x65.2)
    else
    pit_Best_1_l1 n r_ s_ x33 (IntKind.i64.wrap (x_v10 + 1)) x_v11 x_v12 x65.2)))))
    else
    some (x_v11, x_v12, x_v13))
def pit_Best_1 : Nat → Rest → Shop → (List (Rest × Done)) → Option (Done × (List (Rest × Done)))
  | 0, _, _, _ => none
  | n + 1, r_, s_, known =>
    (bif (r_.bus == ((s_.buses.length : Nat) : Int)) then
    some ((Done.mk ([] : List Int) 0), known)
    else
    ((some (lookD known r_ ((Done.mk ([] : List Int) 0) : Done))).bind fun x24 =>
    (bif x24.2 then
    some (x24.1, known)
    else
    ((idx s_.buses r_.bus).bind fun x33 =>
    ((pit_Best_1_l1 n r_ s_ x33 (-1) ([] : List Int) 0 known).bind fun o_102 =>
    some ((Done.mk o_102.1 o_102.2.1), (put? o_102.2.2 r_ (Done.mk o_102.1 o_102.2.1))))))))
end

def pit_Best (n : Nat) (s : Shop) : Option ((List Int) × Int × Int) :=
  ((pit_Shop_check n s).bind fun x11 =>
  (bif (x11 != 0) then
  some (([] : List Int), 0, x11)
  else
  ((Hours.ofL (copyL (Hours.mk 0 0 0 0 0 0 0 0 0 0 0 0 0 0).toL s.pits)).bind fun u_41 =>
  ((pit_Best_1 n (Rest.mk 0 u_41) s ([] : List (Rest × Done))).bind fun x24 =>
  ((slices_Clone_int_int n x24.1.plan).bind fun x27 =>
  some (x27, x24.1.cost, 0))))))
def law_board (n : Nat)  : Option (List Card) :=
  some ([(Card.mk 7 1 100 (IK.mk 0) 3 0), (Card.mk 7 2 120 (IK.mk 1) 4 0), (Card.mk 7 3 200 (IK.mk 2) 0 1), (Card.mk 7 4 300 (IK.mk 3) 0 0), (Card.mk 8 5 150 (IK.mk 0) 1 0), (Card.mk 8 6 400 (IK.mk 2) 0 1), (Card.mk 7 7 310 (IK.mk 0) 5 0)] : List Card)
def law_yard (n : Nat)  : Option Shop :=
  some (Shop.mk ([(Job.mk 0 4 5), (Job.mk 1 6 2), (Job.mk 1 4 3)] : List Job) 3 ([6, 5, 6] : List Int))
def law_wakes (n : Nat)  : Option Bool :=
  ((law_board n ).bind fun x12 =>
  ((pit_Open n x12 7 250).bind fun x13 =>
  ((law_board n ).bind fun x17 =>
  ((pit_FitL n x17 130).bind fun x18 =>
  ((pit_Due n (Wear.mk (Rg.mk 800 900) (Rg.mk 30 50) 5 1000 14)).bind fun x25 =>
  ((law_yard n ).bind fun x30 =>
  ((pit_Best n x30).bind fun x31 =>
  (bif (x13.2 == 0) then
  ((law_ints n x13.1 ([2] : List Int)).bind fun x40 =>
  (bif x40 then
  (bif (x18.2 == 0) then
  ((law_ints n x18.1 ([8] : List Int)).bind fun x49 =>
  (bif x49 then
  (bif (x25.2.2 == 0) then
  (bif (x25.1 == 2) then
  (bif (x25.2.1 == 7) then
  (bif (x31.2.2 == 0) then
  ((law_ints n x31.1 ([0, 2, 1] : List Int)).bind fun x70 =>
  (bif x70 then
  some (x31.2.1 == 2)
  else
  some false))
  else
  some false)
  else
  some false)
  else
  some false)
  else
  some false)
  else
  some false))
  else
  some false)
  else
  some false))
  else
  some false))))))))
def law_PitShort_l2 : Nat → Shop → (List Int) → ((List Int) × Int × Int) → (Int × Int) → Int → Int → Bool → Option Bool
  | 0, _, _, _, _, _, _, _ => none
  | n + 1, s, plan, x26, x33, x_v10, x_v20, x_v21 =>
    ((rng 2 x_v10).bind fun x78 =>
    ((idx (A2int.mk x26.1 plan).toL x_v10).bind fun x79 =>
    (bif decide (x_v20 < ((x79.length : Nat) : Int)) then
    (bif x_v21 then
    law_PitShort_l2 n s plan x26 x33 x_v10 (IntKind.i64.wrap (x_v20 + 1)) true
    else
    ((idx s.buses x_v20).bind fun x89 =>
    (bif decide (x89.due ≤ x33.1) then
    ((rng 2 x_v10).bind fun x96 =>
    ((idx (A2int.mk x26.1 plan).toL x_v10).bind fun x97 =>
    ((idx x97 x_v20).bind fun x99 =>
    (bif decide (x99 < 0) then
    law_PitShort_l2 n s plan x26 x33 x_v10 (IntKind.i64.wrap (x_v20 + 1)) true
    else
    ((rng 2 x_v10).bind fun x104 =>
    ((idx (A2int.mk x26.1 plan).toL x_v10).bind fun x105 =>
    ((idx x105 x_v20).bind fun x107 =>
    ((idx s.buses x_v20).bind fun x112 =>
    law_PitShort_l2 n s plan x26 x33 x_v10 (IntKind.i64.wrap (x_v20 + 1)) (decide (x107 > x112.due))))))))))
    else
    law_PitShort_l2 n s plan x26 x33 x_v10 (IntKind.i64.wrap (x_v20 + 1)) false)))
    else
    some x_v21)))
def law_PitShort_l1 : Nat → Shop → (List Int) → ((List Int) × Int × Int) → (Int × Int) → Int → Option (Ex Bool Unit)
  | 0, _, _, _, _, _ => none
  | n + 1, s, plan, x26, x33, x_v10 =>
    (bif decide (x_v10 < 2) then
    ((rng 2 x_v10).bind fun x71 =>
    ((idx (A2int.mk x26.1 plan).toL x_v10).bind fun x72 =>
    ((law_Shop n s).bind fun x69 =>
    ((law_list n x72).bind fun x73 =>
    ((pit_ProvePlan n x69 x73 1000000).bind fun x74 =>
    (bif (!x74) then
    law_PitShort_l1 n s plan x26 x33 (IntKind.i64.wrap (x_v10 + 1))
    else
    ((law_PitShort_l2 n s plan x26 x33 x_v10 0 false).bind fun o_258 =>
    (bif (!o_258) then
    some (Ex.ret false)
    else
    law_PitShort_l1 n s plan x26 x33 (IntKind.i64.wrap (x_v10 + 1))))))))))
    else
    some (Ex.go ()))
def law_PitShort (n : Nat) (s : Shop) (plan : List Int) : Option Bool :=
  ((((law_small n s).bind fun x15 =>
  (bif (!x15) then
  some true
  else
  some (decide (((plan.length : Nat) : Int) > 12)))) : Option Bool).bind fun o_14 =>
  (bif o_14 then
  ((law_wakes n ).bind fun x22 =>
  some x22)
  else
  ((law_Shop n s).bind fun x25 =>
  ((pit_Best n x25).bind fun x26 =>
  ((law_Shop n s).bind fun x32 =>
  ((pit_Short n x32).bind fun x33 =>
  (((bif (x26.2.2 != 0) then
  some true
  else
  some (((x26.1.length : Nat) : Int) != ((s.buses.length : Nat) : Int))) : Option Bool).bind fun o_106 =>
  (bif o_106 then
  some false
  else
  (bif (x33.2 != 0) then
  (((bif (x33.2 == 7) then
  ((law_wakes n ).bind fun x51 =>
  some x51)
  else
  some false) : Option Bool).bind fun o_128 =>
  some o_128)
  else
  (((bif decide (x33.1 < 0) then
  some true
  else
  some (decide (x33.1 ≥ s.days))) : Option Bool).bind fun o_152 =>
  (bif o_152 then
  some false
  else
  ((law_PitShort_l1 n s plan x26 x33 0).bind fun o_185 => Ex.bind o_185 (fun r => some r) fun s_186 =>
  ((law_wakes n ).bind fun x121 =>
  some x121)))))))))))))
end Go.Proofs.Ytkbphdjemgibnaa
