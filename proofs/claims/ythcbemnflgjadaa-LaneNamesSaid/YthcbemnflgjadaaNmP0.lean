/- What the functions compute, in plain Lean. -/
import Derived.Test.YthcbemnflgjadaaNmS8
import Derived.Test.YthcbemnflgjadaaProg
import Derived.Lib.BitFns
set_option linter.all false
namespace Go.Proofs.Ythcbemnflgjadaa
open Go Go.RowKit
open Rep (rep)
open KRep (kv)
open VRep (rv)
def Fn1 (h : Heap) (v : Value) (f : Int → Option Bool) : Prop := ∀ (h' : Heap) (w' : World), Heap.le h h' → Has h' w' → ∀ (x0 : Int) (r : Bool), f x0 = some r → CallsV Try.prog v #[.int .i64 x0] w' (Ret (fun h v => v = .bool r) h' w')
theorem Fn1.mono {h h' : Heap} {v : Value} {f : Int → Option Bool} (H : Fn1 h v f) (hle : Heap.le h h') : Fn1 h' v f := fun h2 w2 l => H h2 w2 (Heap.le_trans hle l)
instance : Rep (Int → Option Bool) := ⟨1, fun h f cs => ∃ fn first cap, cs = [.func fn first cap] ∧ Fn1 h (.func fn first cap) f, fun hle ⟨a, b, c, e, hr⟩ => ⟨a, b, c, e, hr.mono hle⟩, fun ⟨a, b, c, e, _⟩ => by subst e; rfl, fun ⟨a, b, c, e, _⟩ v hv => by subst e; simp at hv; subst hv; rfl⟩
structure Bus where
  lo : Int
  hi : Int
  turn : Int
deriving DecidableEq, Inhabited
instance : Rep Bus := Rep.via fun x => (x.lo, x.hi, x.turn)
instance : VRep Bus := VRep.agg Bus
def Fn2 (h : Heap) (v : Value) (f : Bus → Option Bool) : Prop := ∀ (h' : Heap) (w' : World), Heap.le h h' → Has h' w' → ∀ (x0 : Bus) (cs0 : List Value) (_ : rep h' x0 cs0) (r : Bool), f x0 = some r → CallsV Try.prog v #[.agg cs0.toArray] w' (Ret (fun h v => v = .bool r) h' w')
theorem Fn2.mono {h h' : Heap} {v : Value} {f : Bus → Option Bool} (H : Fn2 h v f) (hle : Heap.le h h') : Fn2 h' v f := fun h2 w2 l => H h2 w2 (Heap.le_trans hle l)
instance : Rep (Bus → Option Bool) := ⟨1, fun h f cs => ∃ fn first cap, cs = [.func fn first cap] ∧ Fn2 h (.func fn first cap) f, fun hle ⟨a, b, c, e, hr⟩ => ⟨a, b, c, e, hr.mono hle⟩, fun ⟨a, b, c, e, _⟩ => by subst e; rfl, fun ⟨a, b, c, e, _⟩ v hv => by subst e; simp at hv; subst hv; rfl⟩
structure Yard where
  room : List Int
  buses : List Bus
  broken : Int
deriving DecidableEq, Inhabited
instance : Rep Yard := Rep.via fun x => (x.room, x.buses, x.broken)
instance : VRep Yard := VRep.agg Yard
structure Places where
  a0 : Int
  a1 : Int
  a2 : Int
  a3 : Int
  a4 : Int
  a5 : Int
  a6 : Int
  a7 : Int
deriving DecidableEq, Inhabited
instance : Rep Places := Rep.via fun x => (x.a0, x.a1, x.a2, x.a3, x.a4, x.a5, x.a6, x.a7)
instance : VRep Places := VRep.agg Places
def Places.toL (x : Places) : List Int := [x.a0, x.a1, x.a2, x.a3, x.a4, x.a5, x.a6, x.a7]
def Places.ofL : List Int → Option Places
  | [a0, a1, a2, a3, a4, a5, a6, a7] => some ⟨a0, a1, a2, a3, a4, a5, a6, a7⟩
  | _ => none
theorem Places.ofL_some {l : List Int} {y : Places} (h : Places.ofL l = some y) : y.toL = l := by
  unfold Places.ofL at h
  split at h
  · cases h; rfl
  · cases h
def Places.setI (x : Places) (i : Int) (v : Int) : Option Places := (upd x.toL i v).bind Places.ofL
theorem Places.setI_some {x y : Places} {i : Int} {v : Int} (h : x.setI i v = some y) : 0 ≤ i ∧ i < 8 ∧ y.toL = x.toL.set i.toNat v := by
  obtain ⟨l, hl, h2⟩ := bnd h
  obtain ⟨h0, h1, rfl⟩ := upd_some hl
  exact ⟨h0, h1, Places.ofL_some h2⟩
structure Some where
  a0 : Bool
  a1 : Bool
  a2 : Bool
  a3 : Bool
  a4 : Bool
  a5 : Bool
  a6 : Bool
  a7 : Bool
deriving DecidableEq, Inhabited
instance : Rep Some := Rep.via fun x => (x.a0, x.a1, x.a2, x.a3, x.a4, x.a5, x.a6, x.a7)
instance : VRep Some := VRep.agg Some
def Some.toL (x : Some) : List Bool := [x.a0, x.a1, x.a2, x.a3, x.a4, x.a5, x.a6, x.a7]
def Some.ofL : List Bool → Option Some
  | [a0, a1, a2, a3, a4, a5, a6, a7] => some ⟨a0, a1, a2, a3, a4, a5, a6, a7⟩
  | _ => none
theorem Some.ofL_some {l : List Bool} {y : Some} (h : Some.ofL l = some y) : y.toL = l := by
  unfold Some.ofL at h
  split at h
  · cases h; rfl
  · cases h
def Some.setI (x : Some) (i : Int) (v : Bool) : Option Some := (upd x.toL i v).bind Some.ofL
theorem Some.setI_some {x y : Some} {i : Int} {v : Bool} (h : x.setI i v = some y) : 0 ≤ i ∧ i < 8 ∧ y.toL = x.toL.set i.toNat v := by
  obtain ⟨l, hl, h2⟩ := bnd h
  obtain ⟨h0, h1, rfl⟩ := upd_some hl
  exact ⟨h0, h1, Some.ofL_some h2⟩
structure Night where
  yard : Yard
  lane : List Int
  tm : Places
  broken : Some
deriving DecidableEq, Inhabited
instance : Rep Night := Rep.via fun x => (x.yard, x.lane, x.tm, x.broken)
instance : VRep Night := VRep.agg Night
def Fn3 (h : Heap) (v : Value) (f : Int → Int → Option Int) : Prop := ∀ (h' : Heap) (w' : World), Heap.le h h' → Has h' w' → ∀ (x0 : Int) (x1 : Int) (r : Int), f x0 x1 = some r → CallsV Try.prog v #[.int .i64 x0, .int .i64 x1] w' (Ret (fun h v => v = .int .i64 r) h' w')
theorem Fn3.mono {h h' : Heap} {v : Value} {f : Int → Int → Option Int} (H : Fn3 h v f) (hle : Heap.le h h') : Fn3 h' v f := fun h2 w2 l => H h2 w2 (Heap.le_trans hle l)
instance : Rep (Int → Int → Option Int) := ⟨1, fun h f cs => ∃ fn first cap, cs = [.func fn first cap] ∧ Fn3 h (.func fn first cap) f, fun hle ⟨a, b, c, e, hr⟩ => ⟨a, b, c, e, hr.mono hle⟩, fun ⟨a, b, c, e, _⟩ => by subst e; rfl, fun ⟨a, b, c, e, _⟩ v hv => by subst e; simp at hv; subst hv; rfl⟩
def Fn4 (h : Heap) (v : Value) (f : Int → Int → Option Bool) : Prop := ∀ (h' : Heap) (w' : World), Heap.le h h' → Has h' w' → ∀ (x0 : Int) (x1 : Int) (r : Bool), f x0 x1 = some r → CallsV Try.prog v #[.int .i64 x0, .int .i64 x1] w' (Ret (fun h v => v = .bool r) h' w')
theorem Fn4.mono {h h' : Heap} {v : Value} {f : Int → Int → Option Bool} (H : Fn4 h v f) (hle : Heap.le h h') : Fn4 h' v f := fun h2 w2 l => H h2 w2 (Heap.le_trans hle l)
instance : Rep (Int → Int → Option Bool) := ⟨1, fun h f cs => ∃ fn first cap, cs = [.func fn first cap] ∧ Fn4 h (.func fn first cap) f, fun hle ⟨a, b, c, e, hr⟩ => ⟨a, b, c, e, hr.mono hle⟩, fun ⟨a, b, c, e, _⟩ => by subst e; rfl, fun ⟨a, b, c, e, _⟩ v hv => by subst e; simp at hv; subst hv; rfl⟩
structure Column where
  buses : List Int
  down : Int
deriving DecidableEq, Inhabited
instance : Rep Column := Rep.via fun x => (x.buses, x.down)
instance : VRep Column := VRep.agg Column
def Fn5 (h : Heap) (v : Value) (f : Bus → Option Int) : Prop := ∀ (h' : Heap) (w' : World), Heap.le h h' → Has h' w' → ∀ (x0 : Bus) (cs0 : List Value) (_ : rep h' x0 cs0) (r : Int), f x0 = some r → CallsV Try.prog v #[.agg cs0.toArray] w' (Ret (fun h v => v = .int .i64 r) h' w')
theorem Fn5.mono {h h' : Heap} {v : Value} {f : Bus → Option Int} (H : Fn5 h v f) (hle : Heap.le h h') : Fn5 h' v f := fun h2 w2 l => H h2 w2 (Heap.le_trans hle l)
instance : Rep (Bus → Option Int) := ⟨1, fun h f cs => ∃ fn first cap, cs = [.func fn first cap] ∧ Fn5 h (.func fn first cap) f, fun hle ⟨a, b, c, e, hr⟩ => ⟨a, b, c, e, hr.mono hle⟩, fun ⟨a, b, c, e, _⟩ => by subst e; rfl, fun ⟨a, b, c, e, _⟩ v hv => by subst e; simp at hv; subst hv; rfl⟩
structure Comes where
  tm : Bus → Option Int
instance : Rep Comes := Rep.via fun x => (x.tm)
instance : VRep Comes := VRep.agg Comes
structure Stand where
  behind : Int
  last : Int
deriving DecidableEq, Inhabited
instance : Rep Stand := Rep.via fun x => (x.behind, x.last)
instance : VRep Stand := VRep.agg Stand
structure Found where
  many : Int
  tm : Places
deriving DecidableEq, Inhabited
instance : Rep Found := Rep.via fun x => (x.many, x.tm)
instance : VRep Found := VRep.agg Found
instance : KRep Stand := ⟨fun x => .agg #[.int .i64 x.behind, .int .i64 x.last], fun {a b} h => by
  rcases a with ⟨a0, a1⟩
  rcases b with ⟨b0, b1⟩
  simp_all⟩
def Fn6 (h : Heap) (v : Value) (f : Int → Option Int) : Prop := ∀ (h' : Heap) (w' : World), Heap.le h h' → Has h' w' → ∀ (x0 : Int) (r : Int), f x0 = some r → CallsV Try.prog v #[.int .i64 x0] w' (Ret (fun h v => v = .int .i64 r) h' w')
theorem Fn6.mono {h h' : Heap} {v : Value} {f : Int → Option Int} (H : Fn6 h v f) (hle : Heap.le h h') : Fn6 h' v f := fun h2 w2 l => H h2 w2 (Heap.le_trans hle l)
instance : Rep (Int → Option Int) := ⟨1, fun h f cs => ∃ fn first cap, cs = [.func fn first cap] ∧ Fn6 h (.func fn first cap) f, fun hle ⟨a, b, c, e, hr⟩ => ⟨a, b, c, e, hr.mono hle⟩, fun ⟨a, b, c, e, _⟩ => by subst e; rfl, fun ⟨a, b, c, e, _⟩ v hv => by subst e; simp at hv; subst hv; rfl⟩
structure Key where
  buses : Some
  down : Some
deriving DecidableEq, Inhabited
instance : Rep Key := Rep.via fun x => (x.buses, x.down)
instance : VRep Key := VRep.agg Key
instance : KRep Key := ⟨fun x => .agg #[.bool x.buses.a0, .bool x.buses.a1, .bool x.buses.a2, .bool x.buses.a3, .bool x.buses.a4, .bool x.buses.a5, .bool x.buses.a6, .bool x.buses.a7, .bool x.down.a0, .bool x.down.a1, .bool x.down.a2, .bool x.down.a3, .bool x.down.a4, .bool x.down.a5, .bool x.down.a6, .bool x.down.a7], fun {a b} h => by
  rcases a with ⟨⟨a0, a1, a2, a3, a4, a5, a6, a7⟩, ⟨a8, a9, a10, a11, a12, a13, a14, a15⟩⟩
  rcases b with ⟨⟨b0, b1, b2, b3, b4, b5, b6, b7⟩, ⟨b8, b9, b10, b11, b12, b13, b14, b15⟩⟩
  simp_all⟩
def lane_within (n : Nat) (n_ : Int) (low : Int) (high : Int) : Option Bool :=
  (bif decide (low ≤ n_) then
  some (decide (n_ ≤ high))
  else
  some false)
def lane_all_int_1 (n : Nat) (x : Int) (q0 : Int → Option Bool) : Option Bool :=
  ((q0 x).bind fun x6 =>
  some (!x6))
def slices_IndexFunc_int_int_l1 : Nat → (List Int) → (Int → Option Bool) → Int → Option (Ex Int Unit)
  | 0, _, _, _ => none
  | n + 1, s, f, x_v10 =>
    (bif decide (x_v10 < ((s.length : Nat) : Int)) then
    ((idx s x_v10).bind fun x14 =>
    ((f x14).bind fun x16 =>
    (bif x16 then
    some (Ex.ret x_v10)
    else
    slices_IndexFunc_int_int_l1 n s f (IntKind.i64.wrap (x_v10 + 1)))))
    else
    some (Ex.go ()))
def slices_IndexFunc_int_int (n : Nat) (s : List Int) (f : Int → Option Bool) : Option Int :=
  ((slices_IndexFunc_int_int_l1 n s f 0).bind fun o_6 => Ex.bind o_6 (fun r => some r) fun s_7 =>
  some (-1))
def slices_ContainsFunc_int_int (n : Nat) (s : List Int) (f : Int → Option Bool) : Option Bool :=
  ((slices_IndexFunc_int_int n s f).bind fun x7 =>
  some (decide (x7 ≥ 0)))
def lane_all_int (n : Nat) (l : List Int) (right : Int → Option Bool) : Option Bool :=
  ((slices_ContainsFunc_int_int n l (fun (y0 : Int) => lane_all_int_1 n y0 right)).bind fun x7 =>
  some (!x7))
def lane_Bus_valid (n : Nat) (b : Bus) : Option Bool :=
  ((lane_within n b.lo 0 b.hi).bind fun x7 =>
  (bif x7 then
  (bif decide (b.hi ≤ 2000) then
  ((lane_within n b.turn 0 2000).bind fun x16 =>
  some x16)
  else
  some false)
  else
  some false))
def lane_all_lane_Bus_1 (n : Nat) (x : Bus) (q0 : Bus → Option Bool) : Option Bool :=
  ((q0 x).bind fun x6 =>
  some (!x6))
def slices_IndexFunc_lane_Bus_lane_Bus_l1 : Nat → (List Bus) → (Bus → Option Bool) → Int → Option (Ex Int Unit)
  | 0, _, _, _ => none
  | n + 1, s, f, x_v10 =>
    (bif decide (x_v10 < ((s.length : Nat) : Int)) then
    ((idx s x_v10).bind fun x14 =>
    ((f x14).bind fun x16 =>
    (bif x16 then
    some (Ex.ret x_v10)
    else
    slices_IndexFunc_lane_Bus_lane_Bus_l1 n s f (IntKind.i64.wrap (x_v10 + 1)))))
    else
    some (Ex.go ()))
def slices_IndexFunc_lane_Bus_lane_Bus (n : Nat) (s : List Bus) (f : Bus → Option Bool) : Option Int :=
  ((slices_IndexFunc_lane_Bus_lane_Bus_l1 n s f 0).bind fun o_6 => Ex.bind o_6 (fun r => some r) fun s_7 =>
  some (-1))
def slices_ContainsFunc_lane_Bus_lane_Bus (n : Nat) (s : List Bus) (f : Bus → Option Bool) : Option Bool :=
  ((slices_IndexFunc_lane_Bus_lane_Bus n s f).bind fun x7 =>
  some (decide (x7 ≥ 0)))
def lane_all_lane_Bus (n : Nat) (l : List Bus) (right : Bus → Option Bool) : Option Bool :=
  ((slices_ContainsFunc_lane_Bus_lane_Bus n l (fun (y0 : Bus) => lane_all_lane_Bus_1 n y0 right)).bind fun x7 =>
  some (!x7))
def lane_Yard_check_1 (n : Nat) (n_ : Int) : Option Bool :=
  ((lane_within n n_ 0 8).bind fun x4 =>
  some x4)
def lane_Yard_check_l1 : Nat → Yard → Int → (List (Int × Bool)) → Option (Ex Int (List (Int × Bool)))
  | 0, _, _, _ => none
  | n + 1, y, x_v10, x_v11 =>
    (bif decide (x_v10 < ((y.buses.length : Nat) : Int)) then
    ((idx y.buses x_v10).bind fun x48 =>
    ((some (lookD x_v11 x48.turn (false : Bool))).bind fun x53 =>
    (bif x53.1 then
    some (Ex.ret 1)
    else
    lane_Yard_check_l1 n y (IntKind.i64.wrap (x_v10 + 1)) (put? x_v11 x48.turn true))))
    else
    some (Ex.go x_v11))
def lane_Yard_check (n : Nat) (y : Yard) : Option Int :=
  (((bif decide (((y.room.length : Nat) : Int) > 3) then
  some true
  else
  some (decide (((y.buses.length : Nat) : Int) > 8))) : Option Bool).bind fun o_16 =>
  (bif o_16 then
  some 3
  else
  (((bif (((y.room.length : Nat) : Int) == 0) then
  some true
  else
  ((lane_within n y.broken 0 2).bind fun x26 =>
  (bif (!x26) then
  some true
  else
  ((lane_all_int n y.room (fun (y0 : Int) => lane_Yard_check_1 n y0)).bind fun x33 =>
  (bif (!x33) then
  some true
  else
  ((lane_all_lane_Bus n y.buses (fun (y0 : Bus) => lane_Bus_valid n y0)).bind fun x39 =>
  some (!x39))))))) : Option Bool).bind fun o_35 =>
  (bif o_35 then
  some 1
  else
  ((lane_Yard_check_l1 n y 0 ([] : List (Int × Bool))).bind fun o_115 => Ex.bind o_115 (fun r => some r) fun s_116 =>
  some 0)))))
def slices_Clone_int_int (n : Nat) (s : List Int) : Option (List Int) :=
  ((app ([] : List Int) s).bind fun x7 =>
  some x7)
def lane_Yard_lanes_l1 : Nat → (List Int) → (List Int) → Int → Option (Ex Bool (List Int))
  | 0, _, _, _ => none
  | n + 1, l, x_v10, x_v11 =>
    (bif decide (x_v11 < ((l.length : Nat) : Int)) then
    ((idx l x_v11).bind fun x21 =>
    ((((lane_within n x21 0 (IntKind.i64.wrap (((x_v10.length : Nat) : Int) - 1))).bind fun x27 =>
    (bif (!x27) then
    some true
    else
    ((idx x_v10 x21).bind fun x32 =>
    some (x32 == 0)))) : Option Bool).bind fun o_78 =>
    (bif o_78 then
    some (Ex.ret false)
    else
    ((idx x_v10 x21).bind fun x38 =>
    ((idx x_v10 x21).bind fun x41 =>
    ((upd x_v10 x21 (IntKind.i64.wrap (x38 - 1))).bind fun u_152 =>
    lane_Yard_lanes_l1 n l u_152 (IntKind.i64.wrap (x_v11 + 1))))))))
    else
    some (Ex.go x_v10))
def lane_Yard_lanes (n : Nat) (y : Yard) (l : List Int) : Option Bool :=
  (bif (((l.length : Nat) : Int) != ((y.buses.length : Nat) : Int)) then
  some false
  else
  ((slices_Clone_int_int n y.room).bind fun x16 =>
  ((lane_Yard_lanes_l1 n l x16 0).bind fun o_47 => Ex.bind o_47 (fun r => some r) fun s_48 =>
  some true)))
def slices_Max_int_int_l1 : Nat → (List Int) → Int → Int → Option Int
  | 0, _, _, _ => none
  | n + 1, x, x_v10, x_v11 =>
    (bif decide (x_v10 < ((x.length : Nat) : Int)) then
    ((idx x x_v10).bind fun x21 =>
    slices_Max_int_int_l1 n x (IntKind.i64.wrap (x_v10 + 1)) (if x21 > x_v11 then x21 else x_v11))
    else
    some x_v11)
def slices_Max_int_int (n : Nat) (x : List Int) : Option Int :=
  (bif decide (((x.length : Nat) : Int) < 1) then
  none
  else
  ((idx x 0).bind fun x10 =>
  ((slices_Max_int_int_l1 n x 1 x10).bind fun o_25 =>
  some o_25)))
def lane_latest (n : Nat) (l : List Int) : Option Int :=
  ((slices_Max_int_int n l).bind fun x4 =>
  some x4)
def lane_Yard_bus (n : Nat) (y : Yard) (n_ : Int) : Option Bool :=
  ((lane_within n n_ 0 (IntKind.i64.wrap (((y.buses.length : Nat) : Int) - 1))).bind fun x10 =>
  some x10)
def lane_Yard_possible_l1 : Nat → Yard → (List Int) → Int → Int → Places → Some → Option (Ex (Places × Bool) (Places × Some))
  | 0, _, _, _, _, _, _ => none
  | n + 1, y, order, x_v10, x_v11, x_v12, x_v13 =>
    (bif decide (x_v10 < ((order.length : Nat) : Int)) then
    ((idx order x_v10).bind fun x22 =>
    ((((lane_Yard_bus n y x22).bind fun x26 =>
    (bif (!x26) then
    some true
    else
    ((rng 8 x22).bind fun x30 =>
    ((idx x_v13.toL x22).bind fun x31 =>
    (bif x31 then
    some true
    else
    ((idx y.buses x22).bind fun x37 =>
    some (decide (x37.hi < x_v11)))))))) : Option Bool).bind fun o_73 =>
    (bif o_73 then
    some (Ex.ret (x_v12, false))
    else
    ((rng 8 x22).bind fun x45 =>
    ((Some.setI x_v13 x22 true).bind fun u_143 =>
    ((idx y.buses x22).bind fun x52 =>
    ((rng 8 x22).bind fun x57 =>
    ((lane_latest n ([x_v11, x52.lo] : List Int)).bind fun x56 =>
    ((Places.setI x_v12 x22 x_v10).bind fun us0 =>
    lane_Yard_possible_l1 n y order (IntKind.i64.wrap (x_v10 + 1)) x56 us0 u_143)))))))))
    else
    some (Ex.go (x_v12, x_v13)))
def lane_Yard_possible (n : Nat) (y : Yard) (order : List Int) : Option (Places × Bool) :=
  (bif (((order.length : Nat) : Int) != ((y.buses.length : Nat) : Int)) then
  some ((Places.mk 0 0 0 0 0 0 0 0), false)
  else
  ((lane_Yard_possible_l1 n y order 0 0 (Places.mk 0 0 0 0 0 0 0 0) (Some.mk false false false false false false false false)).bind fun o_40 => Ex.bind o_40 (fun r => some r) fun s_41 =>
  some (s_41.1, true)))
def lane_Yard_down_l1 : Nat → Yard → (List Int) → Int → Int → Some → Option (Ex (Some × Bool) Some)
  | 0, _, _, _, _, _ => none
  | n + 1, y, broken, x_v10, x_v11, x_v12 =>
    (bif decide (x_v10 < ((broken.length : Nat) : Int)) then
    ((idx broken x_v10).bind fun x13 =>
    ((((lane_Yard_bus n y x13).bind fun x17 =>
    (bif (!x17) then
    some true
    else
    some (decide (x13 ≤ x_v11)))) : Option Bool).bind fun o_55 =>
    (bif o_55 then
    some (Ex.ret (x_v12, false))
    else
    ((rng 8 x13).bind fun x27 =>
    ((Some.setI x_v12 x13 true).bind fun u_95 =>
    lane_Yard_down_l1 n y broken (IntKind.i64.wrap (x_v10 + 1)) x13 u_95)))))
    else
    some (Ex.go x_v12))
def lane_Yard_down (n : Nat) (y : Yard) (broken : List Int) : Option (Some × Bool) :=
  ((lane_Yard_down_l1 n y broken 0 (-1) (Some.mk false false false false false false false false)).bind fun o_24 => Ex.bind o_24 (fun r => some r) fun s_25 =>
  some (s_25, decide (((broken.length : Nat) : Int) ≤ y.broken)))
def lane_Yard_night (n : Nat) (y : Yard) (lanes : List Int) (order : List Int) (broken : List Int) : Option (Night × Int) :=
  ((lane_Yard_check n y).bind fun x16 =>
  (bif (x16 != 0) then
  some ((Night.mk (Yard.mk ([] : List Int) ([] : List Bus) 0) ([] : List Int) (Places.mk 0 0 0 0 0 0 0 0) (Some.mk false false false false false false false false)), x16)
  else
  ((lane_Yard_possible n y order).bind fun x24 =>
  ((lane_Yard_down n y broken).bind fun x30 =>
  (((bif (!x24.2) then
  some true
  else
  (bif (!x30.2) then
  some true
  else
  ((lane_Yard_lanes n y lanes).bind fun x42 =>
  some (!x42)))) : Option Bool).bind fun o_85 =>
  (bif o_85 then
  some ((Night.mk (Yard.mk ([] : List Int) ([] : List Bus) 0) ([] : List Int) (Places.mk 0 0 0 0 0 0 0 0) (Some.mk false false false false false false false false)), 2)
  else
  some ((Night.mk y lanes x24.1 x30.1), 0)))))))
def slices_Concat_int_int_l1 : Nat → (List (List Int)) → Int → Int → Option Int
  | 0, _, _, _ => none
  | n + 1, slices, x_v10, x_v11 =>
    (bif decide (x_v10 < ((slices.length : Nat) : Int)) then
    ((idx slices x_v10).bind fun x13 =>
    (bif decide ((IntKind.i64.wrap (x_v11 + ((x13.length : Nat) : Int))) < 0) then
    none
    else
    slices_Concat_int_int_l1 n slices (IntKind.i64.wrap (x_v10 + 1)) (IntKind.i64.wrap (x_v11 + ((x13.length : Nat) : Int)))))
    else
    some x_v11)
def slices_Concat_int_int_l2 : Nat → (List (List Int)) → (List Int) → Int → Option (List Int)
  | 0, _, _, _ => none
  | n + 1, slices, x_v20, x_v21 =>
    (bif decide (x_v21 < ((slices.length : Nat) : Int)) then
    ((idx slices x_v21).bind fun x29 =>
    ((app x_v20 x29).bind fun x33 =>
    slices_Concat_int_int_l2 n slices x33 (IntKind.i64.wrap (x_v21 + 1))))
    else
    some x_v20)
def slices_Concat_int_int (n : Nat) (slices : List (List Int)) : Option (List Int) :=
  ((slices_Concat_int_int_l1 n slices 0 0).bind fun o_8 =>
  ((growO o_8).bind fun x24 =>
  ((slices_Concat_int_int_l2 n slices ([] : List Int) 0).bind fun o_75 =>
  some o_75)))
def slices_insertionSortCmpFunc_int_l2 : Nat → Int → (Int → Int → Option Int) → (List Int) → Int → Option (List Int)
  | 0, _, _, _, _ => none
  | n + 1, a, cmp, x_v20, x_v21 =>
    (((bif decide (x_v21 > a) then
    ((idx x_v20 x_v21).bind fun x25 =>
    ((idx x_v20 (IntKind.i64.wrap (x_v21 - 1))).bind fun x30 =>
    ((cmp x25 x30).bind fun x32 =>
    some (decide (x32 < 0)))))
    else
    some false) : Option Bool).bind fun o_48 =>
    (bif o_48 then
    ((idx x_v20 (IntKind.i64.wrap (x_v21 - 1))).bind fun x45 =>
    ((idx x_v20 x_v21).bind fun x49 =>
    ((idx x_v20 x_v21).bind fun x51 =>
    ((upd x_v20 x_v21 x45).bind fun u_155 =>
    ((idx u_155 (IntKind.i64.wrap (x_v21 - 1))).bind fun x52 =>
    ((upd u_155 (IntKind.i64.wrap (x_v21 - 1)) x49).bind fun u_178 =>
    slices_insertionSortCmpFunc_int_l2 n a cmp u_178 (IntKind.i64.wrap (x_v21 - 1))))))))
    else
    some x_v20))
def slices_insertionSortCmpFunc_int_l1 : Nat → Int → Int → (Int → Int → Option Int) → (List Int) → Int → Option (List Int)
  | 0, _, _, _, _, _ => none
  | n + 1, a, b, cmp, x_v10, x_v11 =>
    (bif decide (x_v11 < b) then
    ((slices_insertionSortCmpFunc_int_l2 n a cmp x_v10 x_v11).bind fun o_35 =>
    slices_insertionSortCmpFunc_int_l1 n a b cmp o_35 (IntKind.i64.wrap (x_v11 + 1)))
    else
    some x_v10)
def slices_insertionSortCmpFunc_int (n : Nat) (data : List Int) (a : Int) (b : Int) (cmp : Int → Int → Option Int) : Option (List Int) :=
  ((slices_insertionSortCmpFunc_int_l1 n a b cmp data (IntKind.i64.wrap (a + 1))).bind fun o_10 =>
  some o_10)
def math_bits_Len (n : Nat) (x : IK .u64) : Option Int := if 0 ≤ x.n ∧ x.n ≤ 18446744073709551615 then some (Lib.bitLen x.n.toNat : Nat) else none
def slices_pdqsortCmpFunc_int_l1 : Nat → (List Int) → Int → Int → Int → (Int → Int → Option Int) → Option (Ex (List Int) Unit)
  | 0, _, _, _, _, _ => none
  | n + 1, data, a, b, limit, cmp =>
    (bif decide ((IntKind.i64.wrap (b - a)) ≤ 12) then
    ((slices_insertionSortCmpFunc_int n data a b cmp).bind fun x30 =>
    some (Ex.ret x30))
    else
    (bif (limit == 0) then
    none
    else
    (bif (!true) then
    none
    else
    none)))
def slices_pdqsortCmpFunc_int : Nat → (List Int) → Int → Int → Int → (Int → Int → Option Int) → Option (List Int)
  | 0, _, _, _, _, _ => none
  | n + 1, data, a, b, limit, cmp =>
    ((slices_pdqsortCmpFunc_int_l1 n data a b limit cmp ).bind fun o_6 => Ex.bind o_6 (fun r => some r) fun s_7 =>
    some data)
def slices_SortFunc_int_int (n : Nat) (x : List Int) (cmp : Int → Int → Option Int) : Option (List Int) :=
  ((math_bits_Len n (IK.mk (IntKind.u64.wrap ((x.length : Nat) : Int)))).bind fun x11 =>
  ((slices_pdqsortCmpFunc_int n x 0 ((x.length : Nat) : Int) x11 cmp).bind fun x13 =>
  some x13))
def lane_Yard_turns_1 (n : Nat) (a : Int) (b : Int) (q0 : Yard) : Option Int :=
  ((idx q0.buses a).bind fun x9 =>
  ((idx q0.buses b).bind fun x15 =>
  some (IntKind.i64.wrap (x9.turn - x15.turn))))
def slices_Values_int_int_1_l1 {σ : Type} : Nat → (σ → Int → Option (σ × Bool)) → (List Int) → Int → σ → Option (Ex σ σ)
  | 0, _, _, _, _ => none
  | n + 1, yield_, q0, x_v10, x_v11 =>
    (bif decide (x_v10 < ((q0.length : Nat) : Int)) then
    ((idx q0 x_v10).bind fun x9 =>
    ((yield_ x_v11 x9).bind fun x13 =>
    (bif (!x13.2) then
    some (Ex.ret x13.1)
    else
    slices_Values_int_int_1_l1 n yield_ q0 (IntKind.i64.wrap (x_v10 + 1)) x13.1)))
    else
    some (Ex.go x_v11))
def slices_Values_int_int_1 {σ : Type} (n : Nat) (yield_ : σ → Int → Option (σ × Bool)) (s : σ) (q0 : List Int) : Option σ :=
  ((slices_Values_int_int_1_l1 n yield_ q0 0 s).bind fun o_13 => Ex.bind o_13 (fun r => some r) fun s_14 =>
  some s_14)
def slices_Values_int_int (n : Nat) (s : List Int) : Option ((List Int)) :=
  some (s)
def lane_Yard_turns_l1 : Nat → Yard → Some → (List Int) → Int → Option (List Int)
  | 0, _, _, _, _ => none
  | n + 1, y, broken, x_v10, x_v11 =>
    (bif decide (x_v11 < ((y.buses.length : Nat) : Int)) then
    ((rng 8 x_v11).bind fun x14 =>
    ((idx broken.toL x_v11).bind fun x15 =>
    (bif (!x15) then
    ((app x_v10 ([x_v11] : List Int)).bind fun x20 =>
    lane_Yard_turns_l1 n y broken x20 (IntKind.i64.wrap (x_v11 + 1)))
    else
    lane_Yard_turns_l1 n y broken x_v10 (IntKind.i64.wrap (x_v11 + 1)))))
    else
    some x_v10)
def lane_Yard_turns (n : Nat) (y : Yard) (broken : Some) : Option ((List Int)) :=
  ((lane_Yard_turns_l1 n y broken ([] : List Int) 0).bind fun o_34 =>
  ((slices_SortFunc_int_int n o_34 (fun (y0 : Int) (y1 : Int) => lane_Yard_turns_1 n y0 y1 y)).bind fun x24 =>
  ((slices_Values_int_int n x24).bind fun x26 =>
  some (x26))))
def lane_night_before (n : Nat) (n_ : Night) (b : Int) (c : Int) : Option Bool :=
  ((idx n_.lane b).bind fun x10 =>
  ((idx n_.lane c).bind fun x15 =>
  (bif (x10 == x15) then
  ((rng 8 b).bind fun x21 =>
  ((idx n_.tm.toL b).bind fun x22 =>
  ((rng 8 c).bind fun x25 =>
  ((idx n_.tm.toL c).bind fun x26 =>
  some (decide (x22 < x26))))))
  else
  some false)))
def lane_night_morning_1 (n : Nat) (c : Int) (d : Int) (q0 : Night) : Option Int :=
  ((rng 8 c).bind fun x8 =>
  ((idx q0.tm.toL c).bind fun x9 =>
  ((rng 8 d).bind fun x12 =>
  ((idx q0.tm.toL d).bind fun x13 =>
  some (IntKind.i64.wrap (x9 - x13))))))
def lane_night_morning_l1 : Nat → Night → Int → (List Int) → Int → Some → Option ((List Int) × Some)
  | 0, _, _, _, _, _ => none
  | n + 1, n_, x15, x_v10, x_v11, x_v12 =>
    (bif decide (x_v11 < ((n_.yard.buses.length : Nat) : Int)) then
    ((((rng 8 x_v11).bind fun x24 =>
    ((idx x_v12.toL x_v11).bind fun x25 =>
    (bif (!x25) then
    (((fun (y0 : Int) (y1 : Int) => lane_night_before n n_ y0 y1) x_v11 x15).bind fun x31 =>
    some x31)
    else
    some false))) : Option Bool).bind fun o_122 =>
    (bif o_122 then
    ((app x_v10 ([x_v11] : List Int)).bind fun x36 =>
    ((rng 8 x_v11).bind fun x38 =>
    ((Some.setI x_v12 x_v11 true).bind fun u_186 =>
    lane_night_morning_l1 n n_ x15 x36 (IntKind.i64.wrap (x_v11 + 1)) u_186)))
    else
    lane_night_morning_l1 n n_ x15 x_v10 (IntKind.i64.wrap (x_v11 + 1)) x_v12))
    else
    some (x_v10, x_v12))
def lane_night_morning (n : Nat) (n_ : Night) : Option (List (List Int)) :=
  ((lane_Yard_turns n n_.yard n_.broken).bind fun x14 =>
  ((slices_Values_int_int_1 n (fun (s : (List (List Int)) × Some) (x15 : Int) => ((((lane_night_morning_l1 n n_ x15 ([] : List Int) 0 s.2).bind fun o_104 =>
  ((slices_SortFunc_int_int n o_104.1 (fun (y0 : Int) (y1 : Int) => lane_night_morning_1 n y0 y1 n_)).bind fun x42 =>
  ((rng 8 x15).bind fun x44 =>
  ((Some.setI o_104.2 x15 true).bind fun u_233 =>
  ((app s.1 ([x42] : List (List Int))).bind fun x48 =>
  some (x48, u_233)))))) : Option ((List (List Int)) × Some)).bind fun s1 => some (s1, true))) (([] : List (List Int)), (Some.mk false false false false false false false false)) x14).bind fun o_65 =>
  some o_65.1))
def lane_Shunts (n : Nat) (y : Yard) (lanes : List Int) (order : List Int) (broken : List Int) : Option ((List Int) × Int) :=
  ((lane_Yard_night n y lanes order broken).bind fun x18 =>
  (bif (x18.2 != 0) then
  some (([] : List Int), x18.2)
  else
  ((lane_night_morning n x18.1).bind fun x25 =>
  ((slices_Concat_int_int n x25).bind fun x26 =>
  ((sortO x26).bind fun u_80 =>
  some (u_80, 0))))))
def lane_Morning (n : Nat) (y : Yard) (lanes : List Int) (order : List Int) (broken : List Int) : Option ((List (List Int)) × Int) :=
  ((lane_Yard_night n y lanes order broken).bind fun x17 =>
  (bif (x17.2 != 0) then
  some (([] : List (List Int)), x17.2)
  else
  ((lane_night_morning n x17.1).bind fun x24 =>
  some (x24, 0))))
def lane_Yard_columns_l1 : Nat → Yard → (List Int) → Some → (List Column) → Int → Option (List Column)
  | 0, _, _, _, _, _ => none
  | n + 1, y, lanes, broken, x_v10, x_v11 =>
    (bif decide (x_v11 < ((y.buses.length : Nat) : Int)) then
    ((rng 8 x_v11).bind fun x50 =>
    ((idx broken.toL x_v11).bind fun x51 =>
    (bif x51 then
    ((idx lanes x_v11).bind fun x55 =>
    ((idx x_v10 x55).bind fun x57 =>
    ((app x57.buses ([x_v11] : List Int)).bind fun x65 =>
    ((upd x_v10 x55 ({ x57 with buses := x65 } : Column)).bind fun u_307 =>
    lane_Yard_columns_l1 n y lanes broken u_307 (IntKind.i64.wrap (x_v11 + 1))))))
    else
    lane_Yard_columns_l1 n y lanes broken x_v10 (IntKind.i64.wrap (x_v11 + 1)))))
    else
    some x_v10)
def lane_Yard_columns (n : Nat) (y : Yard) (lanes : List Int) (broken : Some) : Option (List Column) :=
  ((mk ((y.room.length : Nat) : Int) ((Column.mk ([] : List Int) 0) : Column)).bind fun x15 =>
  ((lane_Yard_turns n y broken).bind fun x18 =>
  ((slices_Values_int_int_1 n (fun (s : List Column) (x19 : Int) => ((((idx lanes x19).bind fun x23 =>
  ((idx s x23).bind fun x25 =>
  ((app x25.buses ([x19] : List Int)).bind fun x33 =>
  ((upd s x23 ({ x25 with buses := x33 } : Column)).bind fun u_144 =>
  ((upd u_144 x23 ({ ({ x25 with buses := x33 } : Column) with down := IntKind.i64.wrap (x25.down + 1) } : Column)).bind fun u_169 =>
  some u_169))))) : Option (List Column)).bind fun s1 => some (s1, true))) x15 x18).bind fun o_65 =>
  ((lane_Yard_columns_l1 n y lanes broken o_65 0).bind fun o_223 =>
  some o_223))))
mutual
def lane_Yard_breaks_1_l1 : Nat → Some → Int → Yard → (List Some) → Int → Option (List Some)
  | 0, _, _, _, _, _ => none
  | n + 1, s_, more, y, x_v10, x_v11 =>
    (((bif decide (x_v11 < ((y.buses.length : Nat) : Int)) then
    some (decide (more > 0))
    else
    some false) : Option Bool).bind fun o_61 =>
    (bif o_61 then
    ((rng 8 x_v11).bind fun x29 =>
    ((Some.setI s_ x_v11 true).bind fun u_95 =>
    ((lane_Yard_breaks_1 n u_95 (IntKind.i64.wrap (x_v11 + 1)) (IntKind.i64.wrap (more - 1)) x_v10 y).bind fun x36 =>
    lane_Yard_breaks_1_l1 n s_ more y x36 (IntKind.i64.wrap (x_v11 + 1)))))
    else
    some x_v10))
def lane_Yard_breaks_1 : Nat → Some → Int → Int → (List Some) → Yard → Option (List Some)
  | 0, _, _, _, _, _ => none
  | n + 1, s_, from_, more, out, y =>
    ((app out ([s_] : List Some)).bind fun x14 =>
    ((lane_Yard_breaks_1_l1 n s_ more y x14 from_).bind fun o_48 =>
    some o_48))
end

def lane_Yard_breaks (n : Nat) (y : Yard) : Option (List Some) :=
  ((lane_Yard_breaks_1 n (Some.mk false false false false false false false false) 0 y.broken ([] : List Some) y).bind fun x9 =>
  some x9)
def lane_Bus_early (n : Nat) (b : Bus) : Option Int :=
  some b.lo
def lane_Bus_late (n : Nat) (b : Bus) : Option Int :=
  some b.hi
def lane_ways (n : Nat)  : Option (List Comes) :=
  some ([(Comes.mk (fun (y0 : Bus) => lane_Bus_early n y0)), (Comes.mk (fun (y0 : Bus) => lane_Bus_late n y0))] : List Comes)
mutual
def lane_Yard_worst_1_l1 : Nat → Stand → Column → Yard → Int → (List Comes) → Int → Places → Int → (List (Stand × Found)) → Option (Places × Int × (List (Stand × Found)))
  | 0, _, _, _, _, _, _, _, _, _ => none
  | n + 1, s_, c, y, x35, x37, x_v10, x_v11, x_v12, x_v13 =>
    (bif decide (x_v10 < ((x37.length : Nat) : Int)) then
    ((idx x37 x_v10).bind fun x42 =>
    ((idx y.buses x35).bind fun x49 =>
    ((x42.tm x49).bind fun x51 =>
    (((bif decide (s_.behind < c.down) then
    ((lane_latest n ([s_.last, x51] : List Int)).bind fun x67 =>
    some x67)
    else
    some s_.last) : Option Int).bind fun o_184 =>
    ((lane_Yard_worst_1 n (Stand.mk (IntKind.i64.wrap (s_.behind + 1)) o_184) c x_v13 y).bind fun x71 =>
    (((bif decide (x51 ≤ s_.last) then
    some (IntKind.i64.wrap (x71.1.many + 1))
    else
    some x71.1.many) : Option Int).bind fun o_249 =>
    (((bif (x_v10 == 0) then
    some true
    else
    some (decide (o_249 > x_v12))) : Option Bool).bind fun o_263 =>
    (bif o_263 then
    ((rng 8 x35).bind fun x93 =>
    ((Places.setI x71.1.tm x35 x51).bind fun u_292 =>
    lane_Yard_worst_1_l1 n s_ c y x35 x37 (IntKind.i64.wrap (x_v10 + 1)) u_292 o_249 x71.2))
    else
    lane_Yard_worst_1_l1 n s_ c y x35 x37 (IntKind.i64.wrap (x_v10 + 1)) x_v11 x_v12 x71.2))))))))
    else
    some (x_v11, x_v12, x_v13))
def lane_Yard_worst_1 : Nat → Stand → Column → (List (Stand × Found)) → Yard → Option (Found × (List (Stand × Found)))
  | 0, _, _, _, _ => none
  | n + 1, s_, c, known, y =>
    (bif (s_.behind == ((c.buses.length : Nat) : Int)) then
    some ((Found.mk 0 (Places.mk 0 0 0 0 0 0 0 0)), known)
    else
    ((some (lookD known s_ ((Found.mk 0 (Places.mk 0 0 0 0 0 0 0 0)) : Found))).bind fun x26 =>
    (bif x26.2 then
    some (x26.1, known)
    else
    ((idx c.buses s_.behind).bind fun x35 =>
    ((lane_ways n ).bind fun x37 =>
    ((lane_Yard_worst_1_l1 n s_ c y x35 x37 0 (Places.mk 0 0 0 0 0 0 0 0) 0 known).bind fun o_98 =>
    some ((Found.mk o_98.2.1 o_98.1), (put? o_98.2.2 s_ (Found.mk o_98.2.1 o_98.1)))))))))
end

def lane_Yard_worst (n : Nat) (y : Yard) (c : Column) : Option Found :=
  ((lane_Yard_worst_1 n (Stand.mk 0 (-1)) c ([] : List (Stand × Found)) y).bind fun x11 =>
  some x11.1)
def lane_Yard_hardest_l3 : Nat → Column → Found → Int → Places → Option Places
  | 0, _, _, _, _ => none
  | n + 1, x30, x34, x_v30, x_v31 =>
    (bif decide (x_v30 < ((x30.buses.length : Nat) : Int)) then
    ((idx x30.buses x_v30).bind fun x44 =>
    ((rng 8 x44).bind fun x49 =>
    ((idx x34.tm.toL x44).bind fun x50 =>
    ((rng 8 x44).bind fun x51 =>
    ((Places.setI x_v31 x44 x50).bind fun u_213 =>
    lane_Yard_hardest_l3 n x30 x34 (IntKind.i64.wrap (x_v30 + 1)) u_213)))))
    else
    some x_v31)
def lane_Yard_hardest_l2 : Nat → Yard → (List Column) → Int → Int → Places → Option (Int × Places)
  | 0, _, _, _, _, _ => none
  | n + 1, y, x26, x_v20, x_v21, x_v22 =>
    (bif decide (x_v20 < ((x26.length : Nat) : Int)) then
    ((idx x26 x_v20).bind fun x30 =>
    ((lane_Yard_worst n y x30).bind fun x34 =>
    ((lane_Yard_hardest_l3 n x30 x34 0 x_v22).bind fun o_170 =>
    lane_Yard_hardest_l2 n y x26 (IntKind.i64.wrap (x_v20 + 1)) (IntKind.i64.wrap (x_v21 + x34.many)) o_170)))
    else
    some (x_v21, x_v22))
def lane_Yard_hardest_l1 : Nat → Yard → (List Int) → (List Some) → Int → Int → Places → Some → Option (Int × Places × Some)
  | 0, _, _, _, _, _, _, _ => none
  | n + 1, y, lanes, x17, x_v10, x_v11, x_v12, x_v13 =>
    (bif decide (x_v10 < ((x17.length : Nat) : Int)) then
    ((idx x17 x_v10).bind fun x21 =>
    ((lane_Yard_columns n y lanes x21).bind fun x26 =>
    ((lane_Yard_hardest_l2 n y x26 0 0 (Places.mk 0 0 0 0 0 0 0 0)).bind fun o_104 =>
    (bif decide (o_104.1 > x_v11) then
    lane_Yard_hardest_l1 n y lanes x17 (IntKind.i64.wrap (x_v10 + 1)) o_104.1 o_104.2 x21
    else
    lane_Yard_hardest_l1 n y lanes x17 (IntKind.i64.wrap (x_v10 + 1)) x_v11 x_v12 x_v13))))
    else
    some (x_v11, x_v12, x_v13))
def lane_Yard_hardest (n : Nat) (y : Yard) (lanes : List Int) : Option (Places × Some × Int) :=
  ((lane_Yard_breaks n y).bind fun x17 =>
  ((lane_Yard_hardest_l1 n y lanes x17 0 (-1) (Places.mk 0 0 0 0 0 0 0 0) (Some.mk false false false false false false false false)).bind fun o_42 =>
  some (o_42.2.1, o_42.2.2, o_42.1)))
def lane_Worst_1 (n : Nat) (b : Int) (q0 : Some) (q1 : Yard) : Option Int :=
  ((rng 8 b).bind fun x6 =>
  ((idx q0.toL b).bind fun x7 =>
  (bif x7 then
  some 2001
  else
  ((idx q1.buses b).bind fun x11 =>
  some x11.turn))))
def cmp_Or_int_l1 : Nat → (List Int) → Int → Option (Ex Int Unit)
  | 0, _, _ => none
  | n + 1, vals, x_v10 =>
    (bif decide (x_v10 < ((vals.length : Nat) : Int)) then
    ((idx vals x_v10).bind fun x10 =>
    (bif (x10 != 0) then
    some (Ex.ret x10)
    else
    cmp_Or_int_l1 n vals (IntKind.i64.wrap (x_v10 + 1))))
    else
    some (Ex.go ()))
def cmp_Or_int (n : Nat) (vals : List Int) : Option Int :=
  ((cmp_Or_int_l1 n vals 0).bind fun o_8 => Ex.bind o_8 (fun r => some r) fun s_9 =>
  some 0)
def lane_Worst_2 (n : Nat) (a : Int) (b : Int) (q0 : Places) (q1 : Int → Option Int) : Option Int :=
  ((rng 8 a).bind fun x8 =>
  ((idx q0.toL a).bind fun x9 =>
  ((rng 8 b).bind fun x11 =>
  ((idx q0.toL b).bind fun x12 =>
  ((q1 b).bind fun x16 =>
  ((q1 a).bind fun x19 =>
  ((cmp_Or_int n ([IntKind.i64.wrap (x9 - x12), IntKind.i64.wrap (x16 - x19), IntKind.i64.wrap (a - b)] : List Int)).bind fun x25 =>
  some x25)))))))
def lane_Worst_l1 : Nat → Yard → (Places × Some × Int) → (List Int) → (List Int) → Int → Option ((List Int) × (List Int))
  | 0, _, _, _, _, _ => none
  | n + 1, y, x25, x_v10, x_v11, x_v12 =>
    (bif decide (x_v12 < ((y.buses.length : Nat) : Int)) then
    ((app x_v10 ([x_v12] : List Int)).bind fun x38 =>
    ((rng 8 x_v12).bind fun x40 =>
    ((idx x25.2.1.toL x_v12).bind fun x41 =>
    (bif x41 then
    ((app x_v11 ([x_v12] : List Int)).bind fun x45 =>
    lane_Worst_l1 n y x25 x38 x45 (IntKind.i64.wrap (x_v12 + 1)))
    else
    lane_Worst_l1 n y x25 x38 x_v11 (IntKind.i64.wrap (x_v12 + 1))))))
    else
    some (x_v10, x_v11))
def lane_Worst (n : Nat) (y : Yard) (lanes : List Int) : Option ((List Int) × (List Int) × Int × Int) :=
  ((lane_Yard_check n y).bind fun x14 =>
  (bif (x14 != 0) then
  some (([] : List Int), ([] : List Int), 0, x14)
  else
  ((lane_Yard_lanes n y lanes).bind fun x20 =>
  (bif (!x20) then
  some (([] : List Int), ([] : List Int), 0, 2)
  else
  ((lane_Yard_hardest n y lanes).bind fun x25 =>
  ((lane_Worst_l1 n y x25 ([] : List Int) ([] : List Int) 0).bind fun o_99 =>
  ((slices_SortFunc_int_int n o_99.1 (fun (y0 : Int) (y1 : Int) => lane_Worst_2 n y0 y1 x25.1 (fun (y0 : Int) => lane_Worst_1 n y0 x25.2.1 y))).bind fun x50 =>
  some (x50, o_99.2, x25.2.2, 0))))))))
def lane_Best_1_l3 : Nat → Column → Int → Some → Some → Option (Some × Some)
  | 0, _, _, _, _ => none
  | n + 1, x31, x_v30, x_v31, x_v32 =>
    (bif decide (x_v30 < ((x31.buses.length : Nat) : Int)) then
    ((idx x31.buses x_v30).bind fun x39 =>
    ((rng 8 x39).bind fun x48 =>
    ((Some.setI x_v31 x39 true).bind fun us0 =>
    ((rng 8 x39).bind fun x50 =>
    ((Some.setI x_v32 x39 (decide (x_v30 ≥ x31.down))).bind fun us1 =>
    lane_Best_1_l3 n x31 (IntKind.i64.wrap (x_v30 + 1)) us0 us1)))))
    else
    some (x_v31, x_v32))
def lane_Best_1_l2 : Nat → Int → Yard → (List Column) → Int → Int → (List (Key × Int)) → Option (Int × (List (Key × Int)))
  | 0, _, _, _, _, _, _ => none
  | n + 1, many, y, x27, x_v20, x_v21, x_v22 =>
    (bif decide (x_v20 < ((x27.length : Nat) : Int)) then
    ((idx x27 x_v20).bind fun x31 =>
    ((lane_Best_1_l3 n x31 0 (Some.mk false false false false false false false false) (Some.mk false false false false false false false false)).bind fun o_134 =>
    ((some (lookD x_v22 (Key.mk o_134.1 o_134.2) (0 : Int))).bind fun x55 =>
    (bif (!x55.2) then
    ((lane_Yard_worst n y x31).bind fun x64 =>
    ((some (lookD (put? x_v22 (Key.mk o_134.1 o_134.2) x64.many) (Key.mk o_134.1 o_134.2) (0 : Int))).bind fun x69 =>
    lane_Best_1_l2 n many y x27 (IntKind.i64.wrap (x_v20 + 1)) (IntKind.i64.wrap (x_v21 + x69.1)) (put? x_v22 (Key.mk o_134.1 o_134.2) x64.many)))
    else
    ((some (lookD x_v22 (Key.mk o_134.1 o_134.2) (0 : Int))).bind fun x69 =>
    lane_Best_1_l2 n many y x27 (IntKind.i64.wrap (x_v20 + 1)) (IntKind.i64.wrap (x_v21 + x69.1)) x_v22)))))
    else
    some (x_v21, x_v22))
def lane_Best_1_l1 : Nat → (List Int) → Bool → Int → (List Some) → Yard → Int → Int → (List (Key × Int)) → Option (Int × (List (Key × Int)))
  | 0, _, _, _, _, _, _, _, _ => none
  | n + 1, l, found, many, breaks, y, x_v10, x_v11, x_v12 =>
    (bif decide (x_v10 < ((breaks.length : Nat) : Int)) then
    ((idx breaks x_v10).bind fun x22 =>
    ((lane_Yard_columns n y l x22).bind fun x27 =>
    ((lane_Best_1_l2 n many y x27 0 0 x_v12).bind fun o_84 =>
    ((lane_latest n ([x_v11, o_84.1] : List Int)).bind fun x75 =>
    (bif found then
    (bif decide (x75 ≥ many) then
    some (x75, o_84.2)
    else
    lane_Best_1_l1 n l found many breaks y (IntKind.i64.wrap (x_v10 + 1)) x75 o_84.2)
    else
    lane_Best_1_l1 n l found many breaks y (IntKind.i64.wrap (x_v10 + 1)) x75 o_84.2)))))
    else
    some (x_v11, x_v12))
def lane_Best_1 (n : Nat) (l : List Int) (found : Bool) (many : Int) (breaks : List Some) (y : Yard) (known : List (Key × Int)) : Option (Int × (List (Key × Int))) :=
  ((lane_Best_1_l1 n l found many breaks y 0 0 known).bind fun o_21 =>
  some (o_21.1, o_21.2))
mutual
def lane_Best_2_l1 : Nat → (List Int) → (List Int) → Yard → (List Some) → (List Int) → Int → Bool → Int → (List Int) → (List (Key × Int)) → Option ((List Int) × Bool × Int × (List Int) × (List (Key × Int)))
  | 0, _, _, _, _, _, _, _, _, _, _ => none
  | n + 1, l, room, y, breaks, x_v10, x_v11, x_v12, x_v13, x_v14, x_v15 =>
    (bif decide (x_v11 < ((room.length : Nat) : Int)) then
    ((idx x_v10 x_v11).bind fun x37 =>
    (bif decide (x37 > 0) then
    ((idx x_v10 x_v11).bind fun x42 =>
    ((idx x_v10 x_v11).bind fun x45 =>
    ((upd x_v10 x_v11 (IntKind.i64.wrap (x42 - 1))).bind fun u_235 =>
    ((app l ([x_v11] : List Int)).bind fun x50 =>
    ((lane_Best_2 n x50 x_v12 x_v13 x_v14 u_235 y breaks x_v15).bind fun x51 =>
    ((idx x51.2.2.2.1 x_v11).bind fun x54 =>
    ((idx x51.2.2.2.1 x_v11).bind fun x57 =>
    ((upd x51.2.2.2.1 x_v11 (IntKind.i64.wrap (x54 + 1))).bind fun u_331 =>
    lane_Best_2_l1 n l room y breaks u_331 (IntKind.i64.wrap (x_v11 + 1)) x51.1 x51.2.1 x51.2.2.1 x51.2.2.2.2))))))))
    else
    lane_Best_2_l1 n l room y breaks x_v10 (IntKind.i64.wrap (x_v11 + 1)) x_v12 x_v13 x_v14 x_v15))
    else
    some (x_v10, x_v12, x_v13, x_v14, x_v15))
def lane_Best_2 : Nat → (List Int) → Bool → Int → (List Int) → (List Int) → Yard → (List Some) → (List (Key × Int)) → Option (Bool × Int × (List Int) × (List Int) × (List (Key × Int)))
  | 0, _, _, _, _, _, _, _, _ => none
  | n + 1, l, found, many, best, room, y, breaks, known =>
    (bif (((l.length : Nat) : Int) == ((y.buses.length : Nat) : Int)) then
    ((lane_Best_1 n l found many breaks y known).bind fun x19 =>
    (((bif (!found) then
    some true
    else
    some (decide (x19.1 < many))) : Option Bool).bind fun o_63 =>
    (((bif o_63 then
    ((slices_Clone_int_int n l).bind fun x28 =>
    some (true, x19.1, x28))
    else
    some (found, many, best)) : Option (Bool × Int × (List Int))).bind fun o_79 =>
    some (o_79.1, o_79.2.1, o_79.2.2, room, x19.2))))
    else
    ((lane_Best_2_l1 n l room y breaks room 0 found many best known).bind fun o_166 =>
    some (o_166.2.1, o_166.2.2.1, o_166.2.2.2.1, o_166.1, o_166.2.2.2.2)))
end

def lane_Best (n : Nat) (y : Yard) : Option ((List Int) × Int × Int) :=
  ((lane_Yard_check n y).bind fun x14 =>
  (bif (x14 != 0) then
  some (([] : List Int), 0, x14)
  else
  ((lane_Yard_breaks n y).bind fun x19 =>
  ((slices_Clone_int_int n y.room).bind fun x22 =>
  ((lane_Best_2 n ([] : List Int) false 0 ([] : List Int) x22 y x19 ([] : List (Key × Int))).bind fun x27 =>
  (bif (!x27.1) then
  some (([] : List Int), 0, 9)
  else
  some (x27.2.2.1, x27.2.1, 0)))))))
def law_night (n : Nat)  : Option Yard :=
  some (Yard.mk ([2, 2] : List Int) ([(Bus.mk 100 120 40), (Bus.mk 110 130 20), (Bus.mk 125 140 30), (Bus.mk 150 160 10)] : List Bus) 0)
def law_ints_l1 : Nat → (List Int) → (List Int) → Int → Option (Ex Bool Unit)
  | 0, _, _, _ => none
  | n + 1, a, b, x_v10 =>
    (bif decide (x_v10 < ((a.length : Nat) : Int)) then
    ((idx a x_v10).bind fun x19 =>
    ((idx b x_v10).bind fun x23 =>
    (bif (x19 != x23) then
    some (Ex.ret false)
    else
    law_ints_l1 n a b (IntKind.i64.wrap (x_v10 + 1)))))
    else
    some (Ex.go ()))
def law_ints (n : Nat) (a : List Int) (b : List Int) : Option Bool :=
  (bif (((a.length : Nat) : Int) != ((b.length : Nat) : Int)) then
  some false
  else
  ((law_ints_l1 n a b 0).bind fun o_11 => Ex.bind o_11 (fun r => some r) fun s_12 =>
  some true))
def law_awake (n : Nat)  : Option Bool :=
  ((law_night n ).bind fun x11 =>
  ((lane_Shunts n x11 ([0, 0, 1, 1] : List Int) ([0, 1, 2, 3] : List Int) ([] : List Int)).bind fun x14 =>
  ((law_night n ).bind fun x18 =>
  ((lane_Worst n x18 ([0, 1, 1, 0] : List Int)).bind fun x20 =>
  ((law_night n ).bind fun x26 =>
  ((lane_Best n x26).bind fun x27 =>
  (bif (x14.2 == 0) then
  ((law_ints n x14.1 ([0, 2] : List Int)).bind fun x36 =>
  (bif x36 then
  (bif (x20.2.2.2 == 0) then
  (bif (x20.2.2.1 == 2) then
  (bif (x27.2.2 == 0) then
  (bif (x27.2.1 == 2) then
  ((law_ints n x27.1 ([0, 0, 1, 1] : List Int)).bind fun x57 =>
  some x57)
  else
  some false)
  else
  some false)
  else
  some false)
  else
  some false)
  else
  some false))
  else
  some false)))))))
def lane_CheckYard (n : Nat) (y : Yard) : Option Int :=
  ((lane_Yard_check n y).bind fun x4 =>
  some x4)
def lane_ProveOrder (n : Nat) (y : Yard) (order : List Int) : Option Bool :=
  ((lane_Yard_check n y).bind fun x8 =>
  (bif (x8 != 0) then
  some false
  else
  ((lane_Yard_possible n y order).bind fun x13 =>
  some x13.2)))
def law_LaneNames (n : Nat)  : Option Bool :=
  ((law_night n ).bind fun x27 =>
  ((lane_Shunts n x27 ([0, 0, 1, 1] : List Int) ([1, 0, 2, 3] : List Int) ([] : List Int)).bind fun x30 =>
  ((law_night n ).bind fun x34 =>
  ((lane_Morning n x34 ([0, 0, 1, 1] : List Int) ([0, 1, 2, 3] : List Int) ([] : List Int)).bind fun x37 =>
  ((law_night n ).bind fun x41 =>
  ((lane_Worst n x41 ([0, 0, 1, 1] : List Int)).bind fun x43 =>
  ((law_night n ).bind fun x48 =>
  ((app x48.room ([2] : List Int)).bind fun x52 =>
  ((lane_Best n (Yard.mk x52 x48.buses x48.broken)).bind fun x56 =>
  (((bif (x30.2 != 0) then
  some true
  else
  ((law_ints n x30.1 ([2] : List Int)).bind fun x65 =>
  (bif (!x65) then
  some true
  else
  (bif (x37.2 != 0) then
  some true
  else
  (bif (((x37.1.length : Nat) : Int) != 4) then
  some true
  else
  ((idx x37.1 0).bind fun x79 =>
  ((law_ints n x79 ([2] : List Int)).bind fun x82 =>
  (bif (!x82) then
  some true
  else
  ((idx x37.1 1).bind fun x87 =>
  ((law_ints n x87 ([0] : List Int)).bind fun x90 =>
  (bif (!x90) then
  some true
  else
  ((idx x37.1 2).bind fun x95 =>
  ((idx x37.1 3).bind fun x99 =>
  (bif ((IntKind.i64.wrap (((x95.length : Nat) : Int) + ((x99.length : Nat) : Int))) != 0) then
  some true
  else
  (bif (x43.2.2.2 != 0) then
  some true
  else
  (bif (x43.2.2.1 != 2) then
  some true
  else
  (bif (x56.2.2 != 0) then
  some true
  else
  (bif (x56.2.1 != 1) then
  some true
  else
  ((law_ints n x56.1 ([0, 0, 1, 2] : List Int)).bind fun x124 =>
  (bif (!x124) then
  some true
  else
  ((law_night n ).bind fun x128 =>
  ((lane_ProveOrder n x128 ([1, 0, 2, 3] : List Int)).bind fun x130 =>
  (bif (!x130) then
  some true
  else
  ((law_night n ).bind fun x134 =>
  ((lane_ProveOrder n x134 ([2, 0, 1, 3] : List Int)).bind fun x136 =>
  (bif x136 then
  some true
  else
  ((law_night n ).bind fun x139 =>
  ((lane_ProveOrder n x139 ([0, 1, 2] : List Int)).bind fun x141 =>
  (bif x141 then
  some true
  else
  ((law_night n ).bind fun x144 =>
  ((lane_ProveOrder n x144 ([0, 1, 2, 2] : List Int)).bind fun x146 =>
  some x146))))))))))))))))))))))))))))))) : Option Bool).bind fun o_219 =>
  (bif o_219 then
  some false
  else
  ((law_night n ).bind fun x149 =>
  ((lane_Shunts n x149 ([0, 0, 0, 1] : List Int) ([0, 1, 2, 3] : List Int) ([] : List Int)).bind fun x152 =>
  ((law_night n ).bind fun x156 =>
  ((lane_Shunts n x156 ([0, 0, 1, 1] : List Int) ([2, 0, 1, 3] : List Int) ([] : List Int)).bind fun x159 =>
  ((law_night n ).bind fun x163 =>
  ((lane_Shunts n x163 ([0, 0, 1, 1] : List Int) ([0, 1, 2, 3] : List Int) ([0] : List Int)).bind fun x167 =>
  ((law_night n ).bind fun x171 =>
  ((lane_Worst n x171 ([0, 0, 1, 2] : List Int)).bind fun x173 =>
  ((law_night n ).bind fun x178 =>
  ((lane_Best n (Yard.mk ([2, 1] : List Int) x178.buses x178.broken)).bind fun x183 =>
  ((law_night n ).bind fun x187 =>
  ((lane_Shunts n (Yard.mk x187.room x187.buses 1) ([0, 0, 1, 1] : List Int) ([1, 0, 2, 3] : List Int) ([1] : List Int)).bind fun x194 =>
  ((law_night n ).bind fun x197 =>
  ((law_night n ).bind fun x198 =>
  ((law_night n ).bind fun x199 =>
  ((mk 4 (0 : Int)).bind fun x200 =>
  ((idx x198.buses 1).bind fun x204 =>
  ((upd x198.buses 1 (Bus.mk x204.lo x204.hi 40)).bind fun u_1213 =>
  ((idx x199.buses 0).bind fun x208 =>
  ((upd x199.buses 0 (Bus.mk 121 x208.hi x208.turn)).bind fun u_1242 =>
  ((lane_Best n (Yard.mk ([0] : List Int) ([] : List Bus) 0)).bind fun x213 =>
  (bif (x152.2 == 2) then
  (bif (x159.2 == 2) then
  (bif (x167.2 == 2) then
  (bif (x173.2.2.2 == 2) then
  (bif (x183.2.2 == 9) then
  (bif (x194.2 == 0) then
  ((law_ints n x194.1 ([1, 2] : List Int)).bind fun x242 =>
  (bif x242 then
  ((lane_CheckYard n (Yard.mk x200 x197.buses x197.broken)).bind fun x246 =>
  (bif (x246 == 3) then
  ((lane_CheckYard n (Yard.mk x198.room u_1213 x198.broken)).bind fun x251 =>
  (bif (x251 == 1) then
  ((lane_CheckYard n (Yard.mk x199.room u_1242 x199.broken)).bind fun x256 =>
  (bif (x256 == 1) then
  ((lane_CheckYard n (Yard.mk ([] : List Int) ([] : List Bus) 0)).bind fun x261 =>
  (bif (x261 == 1) then
  (bif (x213.2.2 == 0) then
  (bif (((x213.1.length : Nat) : Int) == 0) then
  (bif (x213.2.1 == 0) then
  ((law_awake n ).bind fun x278 =>
  some x278)
  else
  some false)
  else
  some false)
  else
  some false)
  else
  some false))
  else
  some false))
  else
  some false))
  else
  some false))
  else
  some false))
  else
  some false)
  else
  some false)
  else
  some false)
  else
  some false)
  else
  some false)
  else
  some false)))))))))))))))))))))))))))))))))
end Go.Proofs.Ythcbemnflgjadaa
