/- Each call computes its plain function. -/
import Derived.Test.YthcbemnflgjadaaProg
import Derived.Test.YthcbemnflgjadaaNmP0
import Derived.Test.YthcbemnflgjadaaNmWB
import Derived.Test.YthcbemnflgjadaaNmWC
set_option linter.all false
namespace Go.Proofs.Ythcbemnflgjadaa
open Go Go.RowKit
open Rep (rep)
open KRep (kv)
open VRep (rv)
def fg_Column (r : Row) (x : Column) : List Value := [.slice r.a r.n r.c, .int .i64 x.down]
abbrev pr_Column (x : Column) : List Int := x.buses
theorem fg_Column_len (r : Row) (x : Column) : (fg_Column r x).length = 2 := rfl
theorem fg_Column_rep (h : Heap) (r : Row) (x : Column) (hr : RepS h r.a r.c (pr_Column x)) (hn : r.n = (pr_Column x).length) : rep h x (fg_Column r x) := by
  unfold fg_Column; rw [hn]; exact ((rep_pair (rep_slice hr) rep_int) : rep h x _)
abbrev K50e1 (d l m p : Nat) : Env := [(d, 0), (l, 0), (m, 0), (p, 0)]
abbrev K50c2 (q : Option Addr) (y : Yard) (z : Nat) (u : Option Addr) (aa : Nat) : List SC := [.slice q y.room.length z, .slice u y.buses.length aa, .int .i64 y.broken]
abbrev K50e3 (d l m p aj al : Nat) (x19 : Int) (an : Nat) (x23 : Int) : Env := [(d, 0), (l, 0), (m, 0), (p, 0), (aj, al + (x19 : Int).toNat * 1), (an, 0 + (x23 : Int).toNat * 2)]
abbrev K50e4 (d l m p au ay : Nat) (x_v11 : Int) (az : Nat) (x55 : Int) : Env := [(d, 0), (l, 0), (m, 0), (p, 0), (au, ay + (x_v11 : Int).toNat * 1), (az, 0 + (x55 : Int).toNat * 2)]
abbrev K50c5 (broken : Some) : List SC := [.bool broken.a0, .bool broken.a1, .bool broken.a2, .bool broken.a3, .bool broken.a4, .bool broken.a5, .bool broken.a6, .bool broken.a7]
abbrev K50m6 (x_v11 : Int) (y : Yard) : TM := [(tI 46 x_v11), (tI 45 ((y.buses.length : Nat) : Int)), (tP 7 3 0), (tP 5 2 0), (tP 4 1 0)]
set_option maxRecDepth 100000 in
set_option maxHeartbeats 4000000 in
theorem lane_Yard_columns_ok (n : Nat) {h : Heap} {w : World} (hh : Has h w) (y : Yard) {cs_y : List Value} (hx_y : rep h y cs_y) (lanes : List Int) {a_lanes : Option Addr} {c_lanes : Nat} (hr_lanes : RepS h a_lanes c_lanes lanes) (broken : Some) {cs_broken : List Value} (hx_broken : rep h broken cs_broken) {r : List Column} (H : lane_Yard_columns n y lanes broken = some r) :
  Calls Try.prog 50 #[.agg cs_y.toArray, .slice a_lanes lanes.length c_lanes, .agg cs_broken.toArray] w (Ret (fun h v => ∃ a c, v = .slice a r.length c ∧ RepS h a c r) h w) := by
 obtain ⟨_, _, rfl, ⟨q, z, rfl, b2⟩, ⟨_, _, rfl, ⟨u, aa, rfl, b3⟩, rfl⟩⟩ := hx_y
 obtain ⟨_, _, rfl, rfl, ⟨_, _, rfl, rfl, ⟨_, _, rfl, rfl, ⟨_, _, rfl, rfl, ⟨_, _, rfl, rfl, ⟨_, _, rfl, rfl, ⟨_, _, rfl, rfl, rfl⟩⟩⟩⟩⟩⟩⟩ := hx_broken
 refine enterMk (e := []) 70 [.agg (K50c2 q y z u aa), .c (.slice a_lanes lanes.length c_lanes), .agg (K50c5 broken)] Try.func50 rfl rfl rfl rfl fun t hk => ?_
 have hm := Mem.begin h w hh
 unfold lane_Yard_columns at H
 refine wp_seq (wp_region_from (wl fun K hK => ?_))
 refine wb (.agg (K50c2 q y z u aa)) hk hm fun d i2 ko (fv : Kn 70 [(d, 0)] [(tP 3 0 0), (tA 0 (K50c2 q y z u aa)), (tS 1 a_lanes lanes.length c_lanes), (tA 2 (K50c5 broken))] i2) hf => hK _ _ ?_
 refine wl fun K hK => ?_
 refine wb (.c (.slice a_lanes lanes.length c_lanes)) fv hf fun l io ki (f4 : Kn 70 [(d, 0), (l, 0)] [(tP 4 1 0), (tP 3 0 0), (tA 0 (K50c2 q y z u aa)), (tS 1 a_lanes lanes.length c_lanes), (tA 2 (K50c5 broken))] io) ho => hK _ _ ?_
 refine wl fun K hK => ?_
 refine wb (.agg (K50c5 broken)) f4 ho fun m iu kj (gb : Kn 70 [(d, 0), (l, 0), (m, 0)] [(tP 5 2 0), (tP 4 1 0), (tP 3 0 0), (tA 0 (K50c2 q y z u aa)), (tS 1 a_lanes lanes.length c_lanes), (tA 2 (K50c5 broken))] iu) de => hK _ _ ?_
 refine Rk 3 1 [(tP 5 2 0), (tP 4 1 0), (tP 3 0 0)] gb de fun jy gd => ?_
 refine wf (wp_seq (wp_region_from (Rk 0 3 [(tI 14 ((y.room.length : Nat) : Int)), (tP 5 2 0), (tP 4 1 0), (tP 3 0 0)] gd de fun j1 gi => ?_)))
 obtain ⟨x15, ex15, H⟩ := bnd H
 obtain ⟨h0, h5, el⟩ := mk_some ex15
 refine wl fun K hK => ?_
 refine wp_makeSlice 90 2 32 [.slice none 0 0, .int .i64 0] (((y.room.length : Nat) : Int)) gi de rfl rfl (by decide) (by rfl) (by kernel_rfl) (by kernel_rfl) (by rfl) h0 h5 (by decide) fun bh i1 ev (d2 : Kn 70 [(d, 0), (l, 0), (m, 0)] [(15, .one (.c (.slice bh ((((y.room.length : Nat) : Int) : Int).toNat) ((((y.room.length : Nat) : Int) : Int).toNat)))), (14, .one (.c (.int .i64 ((y.room.length : Nat) : Int)))), (5, .one (.c (.ptr 2 0))), (4, .one (.c (.ptr 1 0))), (3, .one (.c (.ptr 0 0)))] i1) (hv : Mem ⟨w, h, noX⟩ h [(d, 0), (l, 0), (m, 0)] [⟨[.slice q y.room.length z, .slice u y.buses.length aa, .int .i64 y.broken], some 33⟩, ⟨[.slice a_lanes lanes.length c_lanes], some 22⟩, ⟨[.bool broken.a0, .bool broken.a1, .bool broken.a2, .bool broken.a3, .bool broken.a4, .bool broken.a5, .bool broken.a6, .bool broken.a7], some 74⟩] [⟨bh, (((y.room.length : Nat) : Int) : Int).toNat, (((y.room.length : Nat) : Int) : Int).toNat, 90, 2, (List.flatten (List.replicate (((y.room.length : Nat) : Int) : Int).toNat ([.slice none 0 0, .int .i64 0] : List Value))), 0⟩] ev) => ?_
 have g9 : (((y.room.length : Nat) : Int) : Int).toNat = x15.length := by rw [el]; simp
 obtain ⟨cr, c3, di⟩ := SFam.make (g := fg_Column) (pr := pr_Column) (rw := []) (x := ((Column.mk ([] : List Int) 0) : Column)) 3 1 rfl rfl el hv
 rw [g9] at d2
 replace di : Mem ⟨w, h, noX⟩ h [(d, 0), (l, 0), (m, 0)] [⟨(K50c2 q y z u aa), some 33⟩, ⟨[.slice a_lanes lanes.length c_lanes], some 22⟩, ⟨(K50c5 broken), some 74⟩] (⟨bh, x15.length, x15.length, 90, 2, (famX fg_Column cr x15), 0⟩ :: cr) ev := di
 refine hK _ _ ?_
 refine wl fun K hK => ?_
 refine wa [.slice none 0 0] d2 di fun p eo km (g0 : Kn 70 (K50e1 d l m p) [(tP 7 3 0), (tS 15 bh x15.length x15.length), (tI 14 ((y.room.length : Nat) : Int)), (tP 5 2 0), (tP 4 1 0), (tP 3 0 0)] eo) hw => hK _ _ ?_
 refine wl fun K hK => ?_
 refine wst 3 0 (.c (.slice bh x15.length x15.length)) [.slice bh x15.length x15.length] g0 hw fun kn g1 dj => hK _ _ ?_
 have g2 : Kn 70 (K50e1 d l m p) [(tP 7 3 0), (tP 5 2 0), (tP 4 1 0), (tP 3 0 0)] eo := g1.kp
 refine wf (wp_seq (wp_seq (wp_region_from (Rk 0 2 [(tA 17 (K50c5 broken)), (tA 16 (K50c2 q y z u aa)), (tP 7 3 0), (tP 5 2 0), (tP 4 1 0), (tP 3 0 0)] g2 dj fun ka g3 => ?_))))
 obtain ⟨x18, ex18, H⟩ := bnd H
 refine wl fun K hK => ?_
 refine wc [.agg (K50c2 q y z u aa), .agg (K50c5 broken)] g3 dj (lane_Yard_turns_ok n dj.has y ((rep_pair (rep_slice b2) (rep_pair (rep_slice b3) rep_int)) : rep h y _) broken ((rep_pair rep_bool (rep_pair rep_bool (rep_pair rep_bool (rep_pair rep_bool (rep_pair rep_bool (rep_pair rep_bool (rep_pair rep_bool rep_bool))))))) : rep h broken _) ex18) fun kd fc bp e9 cc hx => ?_
 replace b2 := b2.mono cc
 replace b3 := b3.mono cc
 replace hr_lanes := hr_lanes.mono cc
 replace c3 := c3.mono cc
 obtain ⟨b6, rfl, cw⟩ := e9
 refine ⟨.one (.c (.func (.func 107) #[] #[.pointer (some ⟨b6, 0, none⟩)])), rfl, fun ep (g4 : Kn 70 (K50e1 d l m p) [(18, .one (.c (.func (.func 107) #[] #[.pointer (some ⟨b6, 0, none⟩)]))), (tA 17 (K50c5 broken)), (tA 16 (K50c2 q y z u aa)), (tP 7 3 0), (tP 5 2 0), (tP 4 1 0), (tP 3 0 0)] ep) => hK _ _ ?_⟩
 have c9 : Kn 70 (K50e1 d l m p) [(18, .one (.c (.func (.func 107) #[] #[.pointer (some ⟨b6, 0, none⟩)]))), (tP 7 3 0), (tP 5 2 0), (tP 4 1 0), (tP 3 0 0)] ep := g4.kp
 refine wf (wp_block ?_)
 obtain ⟨cm, e2, H⟩ := bnd H
 refine wp_rangeJ (.func (.func 107) #[] #[.pointer (some ⟨b6, 0, none⟩)]) c9 (by rfl) rfl (fun _ _ => by kernel_rfl) fun bo ej => ?_
 obtain ⟨ey, he, jc, hy⟩ := Mem.loopBegin hx (Marks.nil _) ⟨rfl, rfl⟩ bo
 have e8 : JOk (fun (s : List Column) (h' : Heap) (w' : World) => ∃ (Fj : Fr) (ab : Option Addr) (ac : Nat) (ag : List Row), LoopFr w h Fj ((bp).heap.size + 1) bo ((bp).heap.size :: ([] : List Nat)) ∧ Mem Fj h' (K50e1 d l m p) [⟨(K50c2 q y z u aa), some 33⟩, ⟨[.slice a_lanes lanes.length c_lanes], some 22⟩, ⟨(K50c5 broken), some 74⟩, ⟨[.slice ab s.length ac], some 87⟩] (⟨ab, s.length, ac, 90, 2, (famX fg_Column ag s), 0⟩ :: ag) w' ∧ SFam pr_Column 3 1 h' ag s ∧ Heap.le fc h') := ⟨fun s h' w' hj => by obtain ⟨_, ab, ac, ag, _, hm, bm, _⟩ := hj; exact hm.has, fun s h' h'' w' w'' hj hb hle hn => by obtain ⟨Fj, ab, ac, ag, hlf, hm, bm, hle0⟩ := hj; exact ⟨Fj, ab, ac, ag, hlf, hm.call hb hle hn, bm.mono hle, Heap.le_trans hle0 hle⟩⟩
 refine ⟨_, slices_Values_int_int_1_it n e8 (fun (s : List Column) (x19 : Int) => ((((idx lanes x19).bind fun x23 =>
    ((idx s x23).bind fun x25 =>
    ((app x25.buses ([x19] : List Int)).bind fun x33 =>
    ((upd s x23 ({ x25 with buses := x33 } : Column)).bind fun ai =>
    ((upd ai x23 ({ ({ x25 with buses := x33 } : Column) with down := IntKind.i64.wrap (x25.down + 1) } : Column)).bind fun am =>
    some am))))) : Option (List Column)).bind fun s1 => some (s1, true))) ?_ x15 ⟨ey, bh, x15.length, cr, he, hy, c3, Heap.le_refl _⟩ x18 cw e2, ?_⟩
 ·
  intro s x19 s' i7 ao ew fu  cn
  obtain ⟨ez, ab, ac, ag, db, bv, bm, d3⟩ := fu
  obtain ⟨jt, aw, cn⟩ := bnd cn
  cases cn
  replace hr_lanes := hr_lanes.mono d3
  replace bv : Mem ez ao (K50e1 d l m p) [⟨(K50c2 q y z u aa), some 33⟩, ⟨[.slice a_lanes lanes.length c_lanes], some 22⟩, ⟨(K50c5 broken), some 74⟩, ⟨[.slice ab s.length ac], some 87⟩] (⟨ab, s.length, ac, 90, 2, (famX fg_Column ag s), 0⟩ :: ag) ew := bv
  refine yields1 ej (bv.ext db.loop) ?_
  have g5 : Kn 70 (K50e1 d l m p) [(tI 19 x19), (tP 7 3 0), (tP 4 1 0)] _ := (c9.kp.put (k := 19) (by decide) (.one (.c (.int .i64 x19))))
  refine ws_region_from (by kernel_rfl) (Rk 0 1 [(tI 8 x19), (tP 7 3 0), (tP 4 1 0)] g5 bv fun kb g6 => ?_)
  refine wf ?_
  refine ⟨bv.ext db.loop, ?_⟩
  obtain ⟨bq, d6, jd, bn⟩ := Mem.loopStep bv db { bo with state := .busy }
  replace bn : Mem bq ao (K50e1 d l m p) [⟨(K50c2 q y z u aa), some 33⟩, ⟨[.slice a_lanes lanes.length c_lanes], some 22⟩, ⟨(K50c5 broken), some 74⟩, ⟨[.slice ab s.length ac], some 87⟩] (⟨ab, s.length, ac, 90, 2, (famX fg_Column ag s), 0⟩ :: ag) (World.putObj ew ((bp).heap.size + 1) (.loop { bo with state := .busy })) := bn
  refine ws_block (ws_seq (ws_region_G (by kernel_rfl) (by kernel_rfl) ?_))
  replace bn := bn.drew
  refine wpG_of_D [] (K50e1 d l m p) [⟨(K50c2 q y z u aa), some 33⟩, ⟨[.slice a_lanes lanes.length c_lanes], some 22⟩, ⟨(K50c5 broken), some 74⟩, ⟨[.slice ab s.length ac], some 87⟩] ?_
  refine Dr [0, 1, 2] [2, 1, 0] [(tI 22 x19), (tS 21 a_lanes lanes.length c_lanes), (tS 20 ab s.length ac), (tI 8 x19)] g6 bn fun kc g7 => ?_
  obtain ⟨x23, ex23, aw⟩ := bnd aw
  obtain ⟨h2, h6, ii⟩ := idx_some ex23
  obtain ⟨aj, al, i9, fe, ie, fm⟩ := hr_lanes.get (by decide) ii
  obtain rfl := ie
  have cd := bn.addPlc (b := aj) (o := al + (x19 : Int).toNat * 1) (cs := [.int .i64 x23]) (fun j c hj => fm j _ (map_get hj)) rfl (by kernel_rfl) (by kernel_rfl)
  refine D_index 3 (x19) [.int .i64 x23] (fun _ _ _ _ _ h => h) rfl rfl (rfl) rfl (by decide) (by kernel_rfl) (by kernel_rfl) g7 bn.plOk (by rfl) (by rfl) (by rfl) fe (by rfl) h2 h6 (by kernel_rfl) fun ik (fw : Kn 70 [(d, 0), (l, 0), (m, 0), (p, 0), (aj, al + (x19 : Int).toNat * 1)] [(tP 23 4 0), (tI 22 x19), (tS 21 a_lanes lanes.length c_lanes), (tS 20 ab s.length ac), (tI 8 x19)] ik) => ?_
  refine Dr [4] (dn 4) [(tI 24 x23), (tS 20 ab s.length ac), (tI 8 x19)] fw cd fun ju fx => ?_
  obtain ⟨x25, ex25, aw⟩ := bnd aw
  obtain ⟨ef, eh, dm⟩ := idx_some ex25
  have b8 := lt_of_idx ef eh
  obtain ⟨an, bl⟩ := row_addr cd (i := 0) rfl (b0 := 0 + (x23 : Int).toNat * 2) (famX_lt fg_Column_len (by decide) bm.len b8)
  have bz := cd.addPlc (b := an) (o := 0 + (x23 : Int).toNat * 2) (cs := []) (fun j c hj => by simp at hj) rfl (by kernel_rfl) (by kernel_rfl)
  obtain ⟨a8, ba, b4, c4, ff⟩ := bm.get dm
  have cx : ∀ (e : Env) k c, ([.slice a8 x25.buses.length ba, .int .i64 x25.down] : List SC)[k]? = some c → ((famX fg_Column ag s))[0 + (x23 : Int).toNat * 2 + k]? = some (c.den e) := fun e k c hk => famX_get fg_Column_len c4 dm k _ (map_get hk)
  refine D_index 5 (x23) [.slice a8 x25.buses.length ba, .int .i64 x25.down] (fun _ _ _ _ _ h => h) rfl rfl (rfl) rfl (by decide) (by kernel_rfl) (by kernel_rfl) fx cd.plOk (by rfl) (by rfl) (by rfl) bl (by rfl) ef eh (by kernel_rfl) fun il (fy : Kn 70 (K50e3 d l m p aj al x19 an x23) [(tP 25 5 0), (tI 24 x23), (tS 20 ab s.length ac), (tI 8 x19)] il) => ?_
  refine D_run [6] [6, 5, 4, 3, 2, 1, 0] [9, 8] [(tP 9 5 0), (tI 8 x19)] (fun _ _ _ _ _ h => h) fy (PlOk.peek bz.plOk bz 0 5 rfl rfl bl [.slice a8 x25.buses.length ba, .int .i64 x25.down] (cx _)) (by kernel_rfl) (by rfl) (by kernel_rfl) fun jv fz => ?_
  refine wpD_end (by kernel_rfl) (ws_seq (ws_region_from (by kernel_rfl) (R_runk 0 6 [31, 30, 26, 9] [(tI 31 x19), (tS 30 a8 x25.buses.length ba), (tP 26 5 0), (tP 9 5 0)] fz (PlOk.peek bz.plOk bz 0 5 rfl rfl bl [.slice a8 x25.buses.length ba, .int .i64 x25.down] (cx _)) (by kernel_rfl) fun jw f0 => ?_)))
  refine wl fun K hK => ?_
  refine wS 3 1 [.int .i64 x19] f0 bz fun bd im i3 (f1 : Kn 70 (K50e3 d l m p aj al x19 an x23) [(tS 32 bd 1 1), (tI 31 x19), (tS 30 a8 x25.buses.length ba), (tP 26 5 0), (tP 9 5 0)] im) hg => ?_
  have d7 : Mem bq ao (K50e3 d l m p aj al x19 an x23) [⟨(K50c2 q y z u aa), some 33⟩, ⟨[.slice a_lanes lanes.length c_lanes], some 22⟩, ⟨(K50c5 broken), some 74⟩, ⟨[.slice ab s.length ac], some 87⟩, ⟨[.int .i64 x23], none⟩, ⟨[], none⟩] (⟨ab, s.length, ac, 90, 2, (famX fg_Column ag s), 0⟩ :: ⟨bd, 1, 1, 3, 1, ([.int .i64 x19] : List Value), 0⟩ :: ag) i3 := Mem.famIn [⟨ab, s.length, ac, 90, 2, (famX fg_Column ag s), 0⟩] hg
  have cy : Cells ao ([x19] : List Int) ([.int .i64 x19] : List Value) := ⟨_, _, rfl, (rep_int : rep ao (x19 : Int) _), rfl⟩
  refine hK _ _ ?_
  obtain ⟨x33, ex33, aw⟩ := bnd aw
  obtain ⟨dk, g8⟩ := app_some ex33
  refine wl fun K hK => ?_
  refine wp_append (r := ⟨a8, x25.buses.length, ba, 3, 1, b4, 0⟩) ((x23 : Int).toNat + 2) 8 1 _ (x33.length) _ ([.int .i64 x19] : List Value) f1 d7 rfl rfl (by decide) (by exact c4) (by rfl) (by kernel_rfl) (by rfl) (by rfl) (Cells.len cy) (d7.rowCell (i := 1) rfl) cy.one (by rw [dk]; simp <;> omega) (by rw [dk]; exact g8) (by decide) fun bf bi e6 ip kh fn (f2 : Kn 70 (K50e3 d l m p aj al x19 an x23) [(tS 33 bf x33.length bi), (tS 32 bd 1 1), (tI 31 x19), (tS 30 a8 x25.buses.length ba), (tP 26 5 0), (tP 9 5 0)] ip) dc => ?_
  have fg : Cells ao x33 (b4 ++ ([.int .i64 x19] : List Value)) := by rw [dk]; exact Cells.append ff cy
  obtain rfl : e6 = 0 := Nat.le_zero.1 fn
  refine hK _ _ ?_
  refine R_runk 8 2 [35, 33, 9] [(tP 35 5 0), (tS 33 bf x33.length bi), (tP 9 5 0)] f2 (PlOk.peek dc.plOk dc 0 5 rfl rfl bl [.slice a8 x25.buses.length ba, .int .i64 x25.down] (cx _)) (by kernel_rfl) fun iq f3 => ?_
  obtain ⟨ai, e3, aw⟩ := bnd aw
  obtain ⟨jn, jq, ch⟩ := upd_some e3
  refine wl fun K hK => ?_
  refine wp_storeRow 0 5 0 (0 + (x23 : Int).toNat * 2) (.c (.slice bf x33.length bi)) f3 dc rfl rfl (by rfl) (by rfl) rfl rfl bl rfl (by kernel_rfl) (famX_fit fg_Column_len bm.len b8 (Nat.le_of_ble_eq_true rfl)) fun er f5 hi => ?_
  have h9 : ((famX fg_Column ag s).take (0 + (x23 : Int).toNat * 2 + 0) ++ ([.slice bf x33.length bi] : List Value) ++ (famX fg_Column ag s).drop (0 + (x23 : Int).toNat * 2 + 0 + 1)) = (famX fg_Column (List.set ag (x23 : Int).toNat ⟨bf, x33.length, bi, 3, 1, (b4 ++ ([.int .i64 x19] : List Value)), 0⟩) ai) := by rw [ch]; exact famX_set (r' := ⟨bf, x33.length, bi, 3, 1, (b4 ++ ([.int .i64 x19] : List Value)), 0⟩) fg_Column_len c4 dm rfl (Nat.le_of_ble_eq_true rfl)
  have ec : s.length = ai.length := by rw [ch]; simp
  obtain ⟨bk, c2, hl⟩ : ∃ f, SFam pr_Column 3 1 ao f ai ∧ Mem bq ao [(d, 0), (l, 0), (m, 0), (p, 0), (aj, al + (x19 : Int).toNat * 1), (an, 0 + (x23 : Int).toNat * 2)] [⟨[.slice q y.room.length z, .slice u y.buses.length aa, .int .i64 y.broken], some 33⟩, ⟨[.slice a_lanes lanes.length c_lanes], some 22⟩, ⟨[.bool broken.a0, .bool broken.a1, .bool broken.a2, .bool broken.a3, .bool broken.a4, .bool broken.a5, .bool broken.a6, .bool broken.a7], some 74⟩, ⟨[.slice ab s.length ac], some 87⟩, ⟨[.int .i64 x23], none⟩, ⟨[], none⟩] (⟨ab, s.length, ac, 90, 2, (famX fg_Column f ai), 0⟩ :: ⟨bd, 1, 1, 3, 1, ([.int .i64 x19] : List Value), 0⟩ :: f) er := ⟨(List.set ag (x23 : Int).toNat ⟨bf, x33.length, bi, 3, 1, (b4 ++ ([.int .i64 x19] : List Value)), 0⟩), (by rw [ch]; exact bm.set ⟨rfl, rfl, rfl, rfl, fg⟩), by rw [← h9]; exact hi⟩
  have f6 := f5
  have dd : Mem bq ao [(d, 0), (l, 0), (m, 0), (p, 0), (aj, al + (x19 : Int).toNat * 1), (an, 0 + (x23 : Int).toNat * 2)] [⟨[.slice q y.room.length z, .slice u y.buses.length aa, .int .i64 y.broken], some 33⟩, ⟨[.slice a_lanes lanes.length c_lanes], some 22⟩, ⟨[.bool broken.a0, .bool broken.a1, .bool broken.a2, .bool broken.a3, .bool broken.a4, .bool broken.a5, .bool broken.a6, .bool broken.a7], some 74⟩, ⟨[.slice ab ai.length ac], some 87⟩, ⟨[.int .i64 x23], none⟩, ⟨[], none⟩] (⟨ab, ai.length, ac, 90, 2, (famX fg_Column bk ai), 0⟩ :: ⟨bd, 1, 1, 3, 1, ([.int .i64 x19] : List Value), 0⟩ :: bk) er := by rw [← ec]; exact hl
  have da : (x23 : Int).toNat < ai.length := by rw [← ec]; exact b8
  have ci : ai[(x23 : Int).toNat]? = some ({ x25 with buses := x33 } : Column) := by rw [ch]; exact List.getElem?_set_self b8
  obtain ⟨ds, du, ke, c5, je⟩ := c2.get ci
  have fh : ∀ (e : Env) k c, ([.slice ds x33.length du, .int .i64 x25.down] : List SC)[k]? = some c → ((famX fg_Column bk ai))[0 + (x23 : Int).toNat * 2 + k]? = some (c.den e) := fun e k c hk => famX_get fg_Column_len c5 ci k _ (map_get hk)
  refine hK _ _ ?_
  have f7 : Kn 70 (K50e3 d l m p aj al x19 an x23) [(tP 9 5 0)] iq := f6.kp
  refine wf (ws_region_from (by kernel_rfl) (R_runk 0 7 [42, 40] [(tP 42 5 1), (tI 40 (IntKind.i64.wrap (x25.down + 1)))] f7 (PlOk.peek dd.plOk dd 0 5 rfl rfl bl [.slice ds x33.length du, .int .i64 x25.down] (fh _)) (by kernel_rfl) fun ir f8 => ?_))
  obtain ⟨am, e4, aw⟩ := bnd aw
  obtain ⟨jo, jr, cj⟩ := upd_some e4
  refine wl fun K hK => ?_
  refine wp_storeRow 0 5 1 (0 + (x23 : Int).toNat * 2) (.c (.int .i64 (IntKind.i64.wrap (x25.down + 1)))) f8 dd rfl rfl (by rfl) (by rfl) rfl rfl bl rfl (by kernel_rfl) (famX_fit fg_Column_len c2.len da (Nat.le_of_ble_eq_true rfl)) fun es f9 hp => ?_
  have ia : ((famX fg_Column bk ai).take (0 + (x23 : Int).toNat * 2 + 1) ++ ([.int .i64 (IntKind.i64.wrap (x25.down + 1))] : List Value) ++ (famX fg_Column bk ai).drop (0 + (x23 : Int).toNat * 2 + 1 + 1)) = (famX fg_Column bk am) := by rw [cj]; exact famX_set1 fg_Column_len c5 ci rfl (Nat.le_of_ble_eq_true rfl)
  have ed : ai.length = am.length := by rw [cj]; simp
  obtain ⟨bw, dy, hq⟩ : ∃ f, SFam pr_Column 3 1 ao f am ∧ Mem bq ao [(d, 0), (l, 0), (m, 0), (p, 0), (aj, al + (x19 : Int).toNat * 1), (an, 0 + (x23 : Int).toNat * 2)] [⟨[.slice q y.room.length z, .slice u y.buses.length aa, .int .i64 y.broken], some 33⟩, ⟨[.slice a_lanes lanes.length c_lanes], some 22⟩, ⟨[.bool broken.a0, .bool broken.a1, .bool broken.a2, .bool broken.a3, .bool broken.a4, .bool broken.a5, .bool broken.a6, .bool broken.a7], some 74⟩, ⟨[.slice ab ai.length ac], some 87⟩, ⟨[.int .i64 x23], none⟩, ⟨[], none⟩] (⟨ab, ai.length, ac, 90, 2, (famX fg_Column f am), 0⟩ :: ⟨bd, 1, 1, 3, 1, ([.int .i64 x19] : List Value), 0⟩ :: f) es := ⟨bk, (by rw [cj]; exact c2.set1 c5 ci rfl), by rw [← ia]; exact hp⟩
  have ga := f9
  have d8 : Mem bq ao [(d, 0), (l, 0), (m, 0), (p, 0), (aj, al + (x19 : Int).toNat * 1), (an, 0 + (x23 : Int).toNat * 2)] [⟨[.slice q y.room.length z, .slice u y.buses.length aa, .int .i64 y.broken], some 33⟩, ⟨[.slice a_lanes lanes.length c_lanes], some 22⟩, ⟨[.bool broken.a0, .bool broken.a1, .bool broken.a2, .bool broken.a3, .bool broken.a4, .bool broken.a5, .bool broken.a6, .bool broken.a7], some 74⟩, ⟨[.slice ab am.length ac], some 87⟩, ⟨[.int .i64 x23], none⟩, ⟨[], none⟩] (⟨ab, am.length, ac, 90, 2, (famX fg_Column bw am), 0⟩ :: ⟨bd, 1, 1, 3, 1, ([.int .i64 x19] : List Value), 0⟩ :: bw) es := by rw [← ed]; exact hq
  have jj : (x23 : Int).toNat < am.length := by rw [← ed]; exact da
  have ek : am[(x23 : Int).toNat]? = some ({ ({ x25 with buses := x33 } : Column) with down := IntKind.i64.wrap (x25.down + 1) } : Column) := by rw [cj]; exact List.getElem?_set_self da
  obtain ⟨e0, e1, kf, fr, jf⟩ := dy.get ek
  have jg : ∀ (e : Env) k c, ([.slice e0 x33.length e1, .int .i64 (IntKind.i64.wrap (x25.down + 1))] : List SC)[k]? = some c → ((famX fg_Column bw am))[0 + (x23 : Int).toNat * 2 + k]? = some (c.den e) := fun e k c hk => famX_get fg_Column_len fr ek k _ (map_get hk)
  refine hK _ _ ?_
  have ji : Kn 70 (K50e3 d l m p aj al x19 an x23) [] ir := ga.kp
  refine wf ?_
  obtain rfl := Option.some.inj aw
  refine ⟨d8.ext d6.loop, ?_⟩
  rw [ej.eq]
  obtain ⟨ex, hd, ja, hr⟩ := Mem.loopStep d8 d6 bo
  exact ⟨rfl, ao, (Heap.le_refl _), ex, ab, ac, bw, hd, ((Mem.famCut [⟨ab, am.length, ac, 90, 2, (famX fg_Column bw am), 0⟩] [⟨bd, 1, 1, 3, 1, ([.int .i64 x19] : List Value), 0⟩] (hr)).cutPl 4 (by kernel_rfl)), dy, d3⟩
 ·
  intro i4 fa
  obtain ⟨ct, _, ft⟩ := fa
  obtain ⟨i6, co, cp, cq, d4, d9, fo, ca⟩ := ft
  refine ⟨d9.ext d4.loop, ?_⟩
  obtain ⟨bc, d5, jb, ce⟩ := Mem.loopStep d9 d4 { bo with state := .exhausted }
  replace b2 := b2.mono ca
  replace b3 := b3.mono ca
  replace hr_lanes := hr_lanes.mono ca
  replace cw := cw.mono ca
  replace ce : Mem bc ct (K50e1 d l m p) [⟨(K50c2 q y z u aa), some 33⟩, ⟨[.slice a_lanes lanes.length c_lanes], some 22⟩, ⟨(K50c5 broken), some 74⟩, ⟨[.slice co cm.length cp], some 87⟩] (⟨co, cm.length, cp, 90, 2, (famX fg_Column cq cm), 0⟩ :: cq) (World.putObj i4 ((bp).heap.size + 1) (.loop { bo with state := .exhausted })) := ce
  refine wp_seq (wp_seq (wp_region_from (Rk 0 4 [(tI 46 0), (tI 45 ((y.buses.length : Nat) : Int)), (tP 7 3 0), (tP 5 2 0), (tP 4 1 0)] c9 ce fun jx gc => ?_)))
  refine wf ?_
  obtain ⟨ah, dw, H⟩ := bnd H
  refine wp_mid' (fun a' w' => ∃ (ar : Option Addr) (av : Nat) (be : List Row) (dq : Array Value) (b7 : Heap), a' = ⟨dq, (List.map mark ((bp).heap.size :: ([] : List Nat)))⟩ ∧ Kn 70 (K50e1 d l m p) [(tP 7 3 0)] dq ∧ Mem bc b7 (K50e1 d l m p) [⟨(K50c2 q y z u aa), some 33⟩, ⟨[.slice a_lanes lanes.length c_lanes], some 22⟩, ⟨(K50c5 broken), some 74⟩, ⟨[.slice ar ah.length av], some 87⟩] (⟨ar, ah.length, av, 90, 2, (famX fg_Column be ah), 0⟩ :: be) w' ∧ Heap.le ct b7 ∧ SFam pr_Column 3 1 b7 be ah) ?_ ?_
  ·
   refine wp_block ?_
   refine wp_loop_n (fun ij a' w' => ∃ (x_v10 : List Column) (x_v11 : Int) (ae : Option Addr) (af : Nat) (ak : List Row) (dr : Array Value) (ax : Heap), a' = ⟨dr, (List.map mark ((bp).heap.size :: ([] : List Nat)))⟩ ∧ Kn 70 (K50e1 d l m p) (K50m6 x_v11 y) dr ∧ Mem bc ax (K50e1 d l m p) [⟨(K50c2 q y z u aa), some 33⟩, ⟨[.slice a_lanes lanes.length c_lanes], some 22⟩, ⟨(K50c5 broken), some 74⟩, ⟨[.slice ae x_v10.length af], some 87⟩] (⟨ae, x_v10.length, af, 90, 2, (famX fg_Column ak x_v10), 0⟩ :: ak) w' ∧ Heap.le ct ax ∧ SFam pr_Column 3 1 ax ak x_v10 ∧ lane_Yard_columns_l1 ij y lanes broken x_v10 x_v11 = some ah) n ?_ ?_
   ·
    exact Exists.intro cm ⟨0, co, cp, cq, _, _, rfl, gc.kp, ce, (Heap.le_refl _), fo, dw⟩
   ·
    rintro cl _ kk ⟨x_v10, x_v11, ae, af, ak, dr, ax, rfl, gf, aq, cb, bu, ad⟩
    clear dw
    obtain _ | cl := cl
    ·
     rw [lane_Yard_columns_l1] at ad; cases ad
    rw [lane_Yard_columns_l1] at ad
    replace hr_lanes := hr_lanes.mono cb
    refine wp_seq (wp_region_from (Rk 0 1 ((tB 47 (decide (x_v11 < ((y.buses.length : Nat) : Int)))) :: (K50m6 x_v11 y)) gf aq fun jz c7 => ?_))
    refine wf (wp_seq (wC (decide (x_v11 < ((y.buses.length : Nat) : Int))) c7 (fun cu => ?_) (fun cu => ?_)))
    ·
     rw [cu, cond_true] at ad
     refine wp_skip (wp_seq (wp_block (wp_seq (wp_region_from (Rk 0 2 ((tI 10 x_v11) :: (K50m6 x_v11 y)) c7 aq fun j0 gg => ?_)))))
     refine wf (wp_seq (wp_region_from (Rk 0 1 ((tI 49 x_v11) :: (tI 10 x_v11) :: (K50m6 x_v11 y)) gg aq fun j2 d0 => ?_)))
     obtain ⟨x50, ex50, ad⟩ := bnd ad
     obtain ⟨hz, h3⟩ := rng_some ex50
     refine R_one 1 (.one (.c (.ptr 2 (0 + (x_v11 : Int).toNat * 1)))) rfl (rfl) rfl (run_indexA (E := 4) d0 rfl (by kernel_rfl) (by kernel_rfl) (by rfl) (by rfl) hz h3) (d0.put (by decide) _) fun iv (d1 : Kn 70 (K50e1 d l m p) ((tP 50 2 (0 + (x_v11 : Int).toNat * 1)) :: (tI 49 x_v11) :: (tI 10 x_v11) :: (K50m6 x_v11 y)) iv) => ?_
     obtain ⟨x51, ex51, ad⟩ := bnd ad
     obtain ⟨_, _, ig⟩ := idx_some ex51
     refine R_one 2 (.one (.c (.bool x51))) rfl (rfl) rfl (run_loadAt1 d1 aq.plOk rfl (by rfl) rfl (by kernel_rfl) (arr_get (fun (y : Bool) => ([.bool y] : List SC)) 1 (fun _ => rfl) [] [] broken.toL _ _ ig rfl rfl)) (d1.put (by decide) _) fun en (gh : Kn 70 (K50e1 d l m p) ((tB 51 x51) :: (tP 50 2 (0 + (x_v11 : Int).toNat * 1)) :: (tI 49 x_v11) :: (tI 10 x_v11) :: (K50m6 x_v11 y)) en) => ?_
     have c8 : Kn 70 (K50e1 d l m p) ((tB 51 x51) :: (tI 10 x_v11) :: (K50m6 x_v11 y)) en := gh.kp
     refine wf (wC (x51) c8 (fun cv => ?_) (fun cv => ?_))
     ·
      rw [cond_t cv] at ad
      refine wp_seq (wp_region_G (by kernel_rfl) ?_)
      replace aq := aq.drew
      refine wpG_of_D [] (K50e1 d l m p) [⟨(K50c2 q y z u aa), some 33⟩, ⟨[.slice a_lanes lanes.length c_lanes], some 22⟩, ⟨(K50c5 broken), some 74⟩, ⟨[.slice ae x_v10.length af], some 87⟩] ?_
      refine Dr [0, 1, 2] [2, 1, 0] ((tI 54 x_v11) :: (tS 53 a_lanes lanes.length c_lanes) :: (tS 52 ae x_v10.length af) :: (tI 10 x_v11) :: (K50m6 x_v11 y)) c8 aq fun j3 gj => ?_
      obtain ⟨x55, ex55, ad⟩ := bnd ad
      obtain ⟨h1, h4, ih⟩ := idx_some ex55
      obtain ⟨au, ay, i8, fd, ib, fi⟩ := hr_lanes.get (by decide) ih
      obtain rfl := ib
      have cf := aq.addPlc (b := au) (o := ay + (x_v11 : Int).toNat * 1) (cs := [.int .i64 x55]) (fun j c hj => fi j _ (map_get hj)) rfl (by kernel_rfl) (by kernel_rfl)
      refine D_index 3 (x_v11) [.int .i64 x55] (fun _ _ _ _ _ h => h) rfl rfl (rfl) rfl (by decide) (by kernel_rfl) (by kernel_rfl) gj aq.plOk (by rfl) (by rfl) (by rfl) fd (by rfl) h1 h4 (by kernel_rfl) fun iw (gk : Kn 70 [(d, 0), (l, 0), (m, 0), (p, 0), (au, ay + (x_v11 : Int).toNat * 1)] ((tP 55 4 0) :: (tI 54 x_v11) :: (tS 53 a_lanes lanes.length c_lanes) :: (tS 52 ae x_v10.length af) :: (tI 10 x_v11) :: (K50m6 x_v11 y)) iw) => ?_
      refine Dr [4] (dn 4) ((tI 56 x55) :: (tS 52 ae x_v10.length af) :: (tI 10 x_v11) :: (K50m6 x_v11 y)) gk cf fun j4 gl => ?_
      obtain ⟨x57, ex57, ad⟩ := bnd ad
      obtain ⟨eg, ei, dp⟩ := idx_some ex57
      have b9 := lt_of_idx eg ei
      obtain ⟨az, bt⟩ := row_addr cf (i := 0) rfl (b0 := 0 + (x55 : Int).toNat * 2) (famX_lt fg_Column_len (by decide) bu.len b9)
      have b1 := cf.addPlc (b := az) (o := 0 + (x55 : Int).toNat * 2) (cs := []) (fun j c hj => by simp at hj) rfl (by kernel_rfl) (by kernel_rfl)
      obtain ⟨a9, bb, b5, c6, fj⟩ := bu.get dp
      have cz : ∀ (e : Env) k c, ([.slice a9 x57.buses.length bb, .int .i64 x57.down] : List SC)[k]? = some c → ((famX fg_Column ak x_v10))[0 + (x55 : Int).toNat * 2 + k]? = some (c.den e) := fun e k c hk => famX_get fg_Column_len c6 dp k _ (map_get hk)
      refine D_index 5 (x55) [.slice a9 x57.buses.length bb, .int .i64 x57.down] (fun _ _ _ _ _ h => h) rfl rfl (rfl) rfl (by decide) (by kernel_rfl) (by kernel_rfl) gl cf.plOk (by rfl) (by rfl) (by rfl) bt (by rfl) eg ei (by kernel_rfl) fun ix (gm : Kn 70 (K50e4 d l m p au ay x_v11 az x55) ((tP 57 5 0) :: (tI 56 x55) :: (tS 52 ae x_v10.length af) :: (tI 10 x_v11) :: (K50m6 x_v11 y)) ix) => ?_
      refine D_run [6] [6, 5, 4, 3, 2, 1, 0] [11, 10, 46, 45, 7, 5, 4] ((tP 11 5 0) :: (tI 10 x_v11) :: (K50m6 x_v11 y)) (fun _ _ _ _ _ h => h) gm (PlOk.peek b1.plOk b1 0 5 rfl rfl bt [.slice a9 x57.buses.length bb, .int .i64 x57.down] (cz _)) (by kernel_rfl) (by rfl) (by kernel_rfl) fun j5 gn => ?_
      refine wpD_end (by kernel_rfl) (wp_region_from (R_runk 0 6 [63, 62, 58, 46, 45, 7, 5, 4] ((tI 63 x_v11) :: (tS 62 a9 x57.buses.length bb) :: (tP 58 5 0) :: (K50m6 x_v11 y)) gn (PlOk.peek b1.plOk b1 0 5 rfl rfl bt [.slice a9 x57.buses.length bb, .int .i64 x57.down] (cz _)) (by kernel_rfl) fun j6 go => ?_))
      refine wl fun K hK => ?_
      refine wS 3 1 [.int .i64 x_v11] go b1 fun br iy i5 (gp : Kn 70 (K50e4 d l m p au ay x_v11 az x55) ((tS 64 br 1 1) :: (tI 63 x_v11) :: (tS 62 a9 x57.buses.length bb) :: (tP 58 5 0) :: (K50m6 x_v11 y)) iy) hs => ?_
      have ea : Mem bc ax (K50e4 d l m p au ay x_v11 az x55) [⟨(K50c2 q y z u aa), some 33⟩, ⟨[.slice a_lanes lanes.length c_lanes], some 22⟩, ⟨(K50c5 broken), some 74⟩, ⟨[.slice ae x_v10.length af], some 87⟩, ⟨[.int .i64 x55], none⟩, ⟨[], none⟩] (⟨ae, x_v10.length, af, 90, 2, (famX fg_Column ak x_v10), 0⟩ :: ⟨br, 1, 1, 3, 1, ([.int .i64 x_v11] : List Value), 0⟩ :: ak) i5 := Mem.famIn [⟨ae, x_v10.length, af, 90, 2, (famX fg_Column ak x_v10), 0⟩] hs
      have c0 : Cells ax ([x_v11] : List Int) ([.int .i64 x_v11] : List Value) := ⟨_, _, rfl, (rep_int : rep ax (x_v11 : Int) _), rfl⟩
      refine hK _ _ ?_
      obtain ⟨x65, ex65, ad⟩ := bnd ad
      obtain ⟨dl, ha⟩ := app_some ex65
      refine wl fun K hK => ?_
      refine wp_append (r := ⟨a9, x57.buses.length, bb, 3, 1, b5, 0⟩) ((x55 : Int).toNat + 2) 8 1 _ (x65.length) _ ([.int .i64 x_v11] : List Value) gp ea rfl rfl (by decide) (by exact c6) (by rfl) (by kernel_rfl) (by rfl) (by rfl) (Cells.len c0) (ea.rowCell (i := 1) rfl) c0.one (by rw [dl]; simp <;> omega) (by rw [dl]; exact ha) (by decide) fun bg bj e7 iz kl fq (gq : Kn 70 (K50e4 d l m p au ay x_v11 az x55) ((tS 65 bg x65.length bj) :: (tS 64 br 1 1) :: (tI 63 x_v11) :: (tS 62 a9 x57.buses.length bb) :: (tP 58 5 0) :: (K50m6 x_v11 y)) iz) df => ?_
      have fk : Cells ax x65 (b5 ++ ([.int .i64 x_v11] : List Value)) := by rw [dl]; exact Cells.append fj c0
      obtain rfl : e7 = 0 := Nat.le_zero.1 fq
      refine hK _ _ ?_
      refine R_runk 8 2 [67, 65, 46, 45, 7, 5, 4] ((tP 67 5 0) :: (tS 65 bg x65.length bj) :: (K50m6 x_v11 y)) gq (PlOk.peek df.plOk df 0 5 rfl rfl bt [.slice a9 x57.buses.length bb, .int .i64 x57.down] (cz _)) (by kernel_rfl) fun i0 gr => ?_
      obtain ⟨ap, e5, ad⟩ := bnd ad
      obtain ⟨jp, js, ck⟩ := upd_some e5
      refine wl fun K hK => ?_
      refine wp_storeRow 0 5 0 (0 + (x55 : Int).toNat * 2) (.c (.slice bg x65.length bj)) gr df rfl rfl (by rfl) (by rfl) rfl rfl bt rfl (by kernel_rfl) (famX_fit fg_Column_len bu.len b9 (Nat.le_of_ble_eq_true rfl)) fun et gs ht => ?_
      have ic : ((famX fg_Column ak x_v10).take (0 + (x55 : Int).toNat * 2 + 0) ++ ([.slice bg x65.length bj] : List Value) ++ (famX fg_Column ak x_v10).drop (0 + (x55 : Int).toNat * 2 + 0 + 1)) = (famX fg_Column (List.set ak (x55 : Int).toNat ⟨bg, x65.length, bj, 3, 1, (b5 ++ ([.int .i64 x_v11] : List Value)), 0⟩) ap) := by rw [ck]; exact famX_set (r' := ⟨bg, x65.length, bj, 3, 1, (b5 ++ ([.int .i64 x_v11] : List Value)), 0⟩) fg_Column_len c6 dp rfl (Nat.le_of_ble_eq_true rfl)
      have ee : x_v10.length = ap.length := by rw [ck]; simp
      obtain ⟨bx, dz, hu⟩ : ∃ f, SFam pr_Column 3 1 ax f ap ∧ Mem bc ax [(d, 0), (l, 0), (m, 0), (p, 0), (au, ay + (x_v11 : Int).toNat * 1), (az, 0 + (x55 : Int).toNat * 2)] [⟨[.slice q y.room.length z, .slice u y.buses.length aa, .int .i64 y.broken], some 33⟩, ⟨[.slice a_lanes lanes.length c_lanes], some 22⟩, ⟨[.bool broken.a0, .bool broken.a1, .bool broken.a2, .bool broken.a3, .bool broken.a4, .bool broken.a5, .bool broken.a6, .bool broken.a7], some 74⟩, ⟨[.slice ae x_v10.length af], some 87⟩, ⟨[.int .i64 x55], none⟩, ⟨[], none⟩] (⟨ae, x_v10.length, af, 90, 2, (famX fg_Column f ap), 0⟩ :: ⟨br, 1, 1, 3, 1, ([.int .i64 x_v11] : List Value), 0⟩ :: f) et := ⟨(List.set ak (x55 : Int).toNat ⟨bg, x65.length, bj, 3, 1, (b5 ++ ([.int .i64 x_v11] : List Value)), 0⟩), (by rw [ck]; exact bu.set ⟨rfl, rfl, rfl, rfl, fk⟩), by rw [← ic]; exact ht⟩
      have gu := gs
      have dg : Mem bc ax [(d, 0), (l, 0), (m, 0), (p, 0), (au, ay + (x_v11 : Int).toNat * 1), (az, 0 + (x55 : Int).toNat * 2)] [⟨[.slice q y.room.length z, .slice u y.buses.length aa, .int .i64 y.broken], some 33⟩, ⟨[.slice a_lanes lanes.length c_lanes], some 22⟩, ⟨[.bool broken.a0, .bool broken.a1, .bool broken.a2, .bool broken.a3, .bool broken.a4, .bool broken.a5, .bool broken.a6, .bool broken.a7], some 74⟩, ⟨[.slice ae ap.length af], some 87⟩, ⟨[.int .i64 x55], none⟩, ⟨[], none⟩] (⟨ae, ap.length, af, 90, 2, (famX fg_Column bx ap), 0⟩ :: ⟨br, 1, 1, 3, 1, ([.int .i64 x_v11] : List Value), 0⟩ :: bx) et := by rw [← ee]; exact hu
      have jk : (x55 : Int).toNat < ap.length := by rw [← ee]; exact b9
      have em : ap[(x55 : Int).toNat]? = some ({ x57 with buses := x65 } : Column) := by rw [ck]; exact List.getElem?_set_self b9
      obtain ⟨dt, dv, kg, fs, jh⟩ := dz.get em
      have fl : ∀ (e : Env) k c, ([.slice dt x65.length dv, .int .i64 x57.down] : List SC)[k]? = some c → ((famX fg_Column bx ap))[0 + (x55 : Int).toNat * 2 + k]? = some (c.den e) := fun e k c hk => famX_get fg_Column_len fs em k _ (map_get hk)
      refine hK _ _ ?_
      have gv : Kn 70 (K50e4 d l m p au ay x_v11 az x55) (K50m6 x_v11 y) i0 := gu.kp
      refine wf (wp_region_from (R_runk 0 2 [46, 45, 7, 5, 4] [(tI 46 (IntKind.i64.wrap (x_v11 + 1))), (tI 45 ((y.buses.length : Nat) : Int)), (tP 7 3 0), (tP 5 2 0), (tP 4 1 0)] gv (PlOk.peek dg.plOk dg 0 5 rfl rfl bt [.slice dt x65.length dv, .int .i64 x57.down] (fl _)) (by kernel_rfl) fun j7 gw => ?_))
      refine wf ?_
      exact Exists.intro cl ⟨Nat.lt_succ_self _, Exists.intro ap ⟨(IntKind.i64.wrap (x_v11 + 1)), ae, af, bx, _, _, rfl, ((gw.keep [46, 45, 7, 5, 4] (by rfl)).cut 4 (by kernel_rfl)), ((Mem.famCut [⟨ae, ap.length, af, 90, 2, (famX fg_Column bx ap), 0⟩] [⟨br, 1, 1, 3, 1, ([.int .i64 x_v11] : List Value), 0⟩] dg).cutPl 4 (by kernel_rfl)), cb, dz, ad⟩⟩
     ·
      rw [cond_f cv] at ad
      refine wp_skip (wp_region_from (Rk 0 2 [(tI 46 (IntKind.i64.wrap (x_v11 + 1))), (tI 45 ((y.buses.length : Nat) : Int)), (tP 7 3 0), (tP 5 2 0), (tP 4 1 0)] c8 aq fun j8 gx => ?_))
      refine wf ?_
      exact Exists.intro cl ⟨Nat.lt_succ_self _, Exists.intro x_v10 ⟨(IntKind.i64.wrap (x_v11 + 1)), ae, af, ak, _, _, rfl, gx.kp, aq, cb, bu, ad⟩⟩
    ·
     rw [cu, cond_false] at ad
     refine wp_exit ?_
     obtain rfl := Option.some.inj ad
     exact Exists.intro ae ⟨af, ak, _, _, rfl, c7.kp, aq, cb, bu⟩
  ·
   rintro _ eu ⟨ar, av, be, dq, b7, rfl, gy, eb, jl, fp⟩
   refine wp_seq (wp_region_from (Rk 0 2 [(tS 6 ar ah.length av)] gy eb fun j9 gz => ?_))
   refine wf (wp_ret ?_)
   obtain ⟨fb, jm, cg, c1⟩ := SFam.settleAll [⟨ar, ah.length, av, 90, 2, (famX fg_Column be ah), 0⟩] fp fg_Column_rep eb
   replace cg : Mem bc fb (K50e1 d l m p) [⟨(K50c2 q y z u aa), some 33⟩, ⟨[.slice a_lanes lanes.length c_lanes], some 22⟩, ⟨(K50c5 broken), some 74⟩, ⟨[.slice ar ah.length av], some 87⟩] [⟨ar, ah.length, av, 90, 2, (famX fg_Column be ah), 0⟩] eu := cg
   obtain ⟨dx, hc, h8, dh⟩ := cg.settle (i := 0) rfl
   replace c1 := c1.mono hc
   replace dh : Mem bc dx (K50e1 d l m p) [⟨(K50c2 q y z u aa), some 33⟩, ⟨[.slice a_lanes lanes.length c_lanes], some 22⟩, ⟨(K50c5 broken), some 74⟩, ⟨[.slice ar ah.length av], some 87⟩] [⟨ar, ah.length, av, 90, 2, (famX fg_Column be ah), ((famX fg_Column be ah) : List Value).length⟩] eu := dh
   have h7 : RepS dx ar av ah := ⟨_, c1, h8, cg.rowCap (i := 0) rfl⟩
   obtain rfl := Option.some.inj H
   exact retMk_ok (bs := ((bp).heap.size :: ([] : List Nat))) (.one (.c (.slice ar ah.length av))) gz dh d5.marks d5.of (by kernel_rfl) ⟨_, _, rfl, h7⟩
abbrev K74e1 (b_out b_y b_take a : Nat) : Env := [(b_out, 0), (b_y, 0), (b_take, 0), (a, 0)]
abbrev K74c2 (f : Option Addr) (y : Yard) (k : Nat) (g : Option Addr) (l : Nat) : List SC := [.slice f y.room.length k, .slice g y.buses.length l, .int .i64 y.broken]
abbrev K74c3 (s_ : Some) : List SC := [.bool s_.a0, .bool s_.a1, .bool s_.a2, .bool s_.a3, .bool s_.a4, .bool s_.a5, .bool s_.a6, .bool s_.a7]
abbrev K74c4 (b : Some) : List SC := [.bool b.a0, .bool b.a1, .bool b.a2, .bool b.a3, .bool b.a4, .bool b.a5, .bool b.a6, .bool b.a7]
abbrev K74c5 (b_out b_y b_take : Nat) : List SC := [.func (.func 74) #[] #[.pointer (some ⟨b_out, 0, none⟩), .pointer (some ⟨b_y, 0, none⟩), .pointer (some ⟨b_take, 0, none⟩)]]
abbrev K74m6 (x_v11 more : Int) : TM := [(tI 9 x_v11), (tP 6 3 0), (tI 2 more), (tP 4 1 0), (tP 5 2 0)]
set_option maxRecDepth 100000 in
set_option maxHeartbeats 4000000 in
theorem lane_Yard_breaks_1_rec (n : Nat) : ∀ (F : Fr) (h : Heap) (w : World) (b_out b_y b_take : Nat) (s_ : Some) (cs_s_ : List Value) (hx_s_ : rep h s_ cs_s_) (from_ : Int) (more : Int) (out : List Some) (a_out : Option Addr) (c_out : Nat) (vs_out : List Value) (hc_out : Cells h out vs_out) (y : Yard) (hb_y : BoxS h b_y y) (hc_take : CellsAt h b_take [.func (.func 74) #[] #[.pointer (some ⟨b_out, 0, none⟩), .pointer (some ⟨b_y, 0, none⟩), .pointer (some ⟨b_take, 0, none⟩)]]) (hm : Mem F h [(b_out, 0)] [⟨[.slice a_out out.length c_out], some 84⟩] [⟨a_out, out.length, c_out, 74, 8, vs_out, 0⟩] w) (r : List Some) (H : lane_Yard_breaks_1 n s_ from_ more out y = some r),
  Calls Try.prog 74 #[.agg cs_s_.toArray, .int .i64 from_, .int .i64 more, .pointer (some ⟨b_out, 0, none⟩), .pointer (some ⟨b_y, 0, none⟩), .pointer (some ⟨b_take, 0, none⟩)] w (RetM fun v w' => ∃ (h' : Heap) (aa : Option Addr) (ab : Nat) (ag : List Value), Heap.le h h' ∧ (v = .tuple #[]) ∧ Cells h' r ag ∧ Mem F h' [(b_out, 0)] [⟨[.slice aa r.length ab], some 84⟩] [⟨aa, r.length, ab, 74, 8, ag, 0⟩] w') := by
 induction n using Nat.strongRecOn with
 | _ n ih =>
  intro F h w b_out b_y b_take s_ cs_s_ hx_s_ from_ more out a_out c_out vs_out hc_out y hb_y hc_take hm r H
  obtain _ | n := n
  ·
   rw [lane_Yard_breaks_1] at H; cases H
  obtain ⟨_, _, rfl, rfl, ⟨_, _, rfl, rfl, ⟨_, _, rfl, rfl, ⟨_, _, rfl, rfl, ⟨_, _, rfl, rfl, ⟨_, _, rfl, rfl, ⟨_, _, rfl, rfl, rfl⟩⟩⟩⟩⟩⟩⟩ := hx_s_
  obtain ⟨_, hx_y, hc_y⟩ := id hb_y
  obtain ⟨_, _, rfl, ⟨f, k, rfl, au⟩, ⟨_, _, rfl, ⟨g, l, rfl, av⟩, rfl⟩⟩ := hx_y
  refine enter' (e := [(b_out, 0), (b_y, 0), (b_take, 0)]) 37 [.agg (K74c3 s_), .c (.int .i64 from_), .c (.int .i64 more), .c (.ptr 0 0), .c (.ptr 1 0), .c (.ptr 2 0)] Try.func74 rfl rfl rfl rfl fun t hk => ?_
  replace hm := hm.addPlc (o := 0) (cs := [.slice f y.room.length k, .slice g y.buses.length l, .int .i64 y.broken]) (fun j c hj => by rw [Nat.zero_add]; exact hc_y j _ (map_get hj)) rfl (by kernel_rfl) (by kernel_rfl)
  replace hm := hm.addPlc (o := 0) (cs := [.func (.func 74) #[] #[.pointer (some ⟨b_out, 0, none⟩), .pointer (some ⟨b_y, 0, none⟩), .pointer (some ⟨b_take, 0, none⟩)]]) (fun j c hj => by rw [Nat.zero_add]; exact hc_take j _ (map_get hj)) rfl (by kernel_rfl) (by kernel_rfl)
  replace hm : Mem F h [(b_out, 0), (b_y, 0), (b_take, 0)] [⟨[.slice a_out out.length c_out], some 84⟩, ⟨(K74c2 f y k g l), none⟩, ⟨(K74c5 b_out b_y b_take), none⟩] [⟨a_out, out.length, c_out, 74, 8, vs_out, 0⟩] w := hm
  rw [lane_Yard_breaks_1] at H
  refine wp_seq (wp_region_from (wl fun K hK => ?_))
  refine wb (.agg (K74c3 s_)) hk hm fun a bt dv (b5 : Kn 37 (K74e1 b_out b_y b_take a) [(tP 6 3 0), (tA 0 (K74c3 s_)), (tI 1 from_), (tI 2 more), (tP 3 0 0), (tP 4 1 0), (tP 5 2 0)] bt) bk => hK _ _ ?_
  have b9 : Kn 37 (K74e1 b_out b_y b_take a) [(tP 6 3 0), (tI 1 from_), (tI 2 more), (tP 3 0 0), (tP 4 1 0), (tP 5 2 0)] bt := b5.kp
  refine wf (wp_seq (wp_region_from (Rk 0 2 [(tA 12 (K74c3 s_)), (tS 11 a_out out.length c_out), (tP 6 3 0), (tI 1 from_), (tI 2 more), (tP 3 0 0), (tP 4 1 0), (tP 5 2 0)] b9 bk fun df cd => ?_)))
  refine wl fun K hK => ?_
  refine wS 74 8 (K74c3 s_) cd bk fun u c5 dn (ce : Kn 37 (K74e1 b_out b_y b_take a) [(tS 13 u 1 1), (tA 12 (K74c3 s_)), (tS 11 a_out out.length c_out), (tP 6 3 0), (tI 1 from_), (tI 2 more), (tP 3 0 0), (tP 4 1 0), (tP 5 2 0)] c5) bl => ?_
  have q : Cells h ([s_] : List Some) ([.bool s_.a0, .bool s_.a1, .bool s_.a2, .bool s_.a3, .bool s_.a4, .bool s_.a5, .bool s_.a6, .bool s_.a7] : List Value) := ⟨_, _, rfl, ((rep_pair rep_bool (rep_pair rep_bool (rep_pair rep_bool (rep_pair rep_bool (rep_pair rep_bool (rep_pair rep_bool (rep_pair rep_bool rep_bool))))))) : rep h (s_ : Some) _), rfl⟩
  refine hK _ _ ?_
  obtain ⟨x14, ex14, H⟩ := bnd H
  obtain ⟨ba, cv⟩ := app_some ex14
  refine wl fun K hK => ?_
  refine wp_append 0 8 1 _ (x14.length) _ ([.bool s_.a0, .bool s_.a1, .bool s_.a2, .bool s_.a3, .bool s_.a4, .bool s_.a5, .bool s_.a6, .bool s_.a7] : List Value) ce bl rfl rfl (by decide) rfl (by rfl) (by kernel_rfl) (by rfl) (by rfl) (Cells.len q) (bl.rowCell (i := 1) rfl) q.one (by rw [ba]; simp <;> omega) (by rw [ba]; exact cv) (by decide) fun aj am bx br dp b4 (cf : Kn 37 (K74e1 b_out b_y b_take a) [(tS 14 aj x14.length am), (tS 13 u 1 1), (tA 12 (K74c3 s_)), (tS 11 a_out out.length c_out), (tP 6 3 0), (tI 1 from_), (tI 2 more), (tP 3 0 0), (tP 4 1 0), (tP 5 2 0)] br) cz => ?_
  have b2 : Cells h x14 (vs_out ++ ([.bool s_.a0, .bool s_.a1, .bool s_.a2, .bool s_.a3, .bool s_.a4, .bool s_.a5, .bool s_.a6, .bool s_.a7] : List Value)) := by rw [ba]; exact Cells.append hc_out q
  obtain rfl : bx = 0 := Nat.le_zero.1 b4
  refine hK _ _ ?_
  refine wl fun K hK => ?_
  refine wst 0 0 (.c (.slice aj x14.length am)) [.slice aj x14.length am] cf cz fun dq cg bm => hK _ _ ?_
  have ch : Kn 37 (K74e1 b_out b_y b_take a) [(tP 6 3 0), (tI 1 from_), (tI 2 more), (tP 4 1 0), (tP 5 2 0)] br := cg.kp
  refine wf (wp_seq (wp_region_from (Rk 0 2 [(tI 9 from_), (tP 6 3 0), (tI 2 more), (tP 4 1 0), (tP 5 2 0)] ch bm fun dg ci => ?_)))
  refine wf ?_
  obtain ⟨ax, bf, H⟩ := bnd H
  refine wp_mid' (fun a' w' => ∃ (ak : Option Addr) (an : Nat) (ay : List Value) (bb : Array Value) (ac : Heap), a' = ⟨bb, []⟩ ∧ Kn 37 (K74e1 b_out b_y b_take a) [] bb ∧ Mem F ac (K74e1 b_out b_y b_take a) [⟨[.slice ak ax.length an], some 84⟩, ⟨(K74c2 f y k g l), none⟩, ⟨(K74c5 b_out b_y b_take), none⟩, ⟨(K74c3 s_), some 74⟩] [⟨ak, ax.length, an, 74, 8, ay, 0⟩, ⟨u, 1, 1, 74, 8, ([.bool s_.a0, .bool s_.a1, .bool s_.a2, .bool s_.a3, .bool s_.a4, .bool s_.a5, .bool s_.a6, .bool s_.a7] : List Value), 0⟩] w' ∧ Heap.le h ac ∧ Cells ac ax ay) ?_ ?_
  ·
   refine wp_block ?_
   refine wp_loop_n (fun bo a' w' => ∃ (x_v10 : List Some) (x_v11 : Int) (x : Option Addr) (z : Nat) (ah : List Value) (bc : Array Value) (ad : Heap), a' = ⟨bc, []⟩ ∧ Kn 37 (K74e1 b_out b_y b_take a) (K74m6 x_v11 more) bc ∧ Mem F ad (K74e1 b_out b_y b_take a) [⟨[.slice x x_v10.length z], some 84⟩, ⟨(K74c2 f y k g l), none⟩, ⟨(K74c5 b_out b_y b_take), none⟩, ⟨(K74c3 s_), some 74⟩] [⟨x, x_v10.length, z, 74, 8, ah, 0⟩, ⟨u, 1, 1, 74, 8, ([.bool s_.a0, .bool s_.a1, .bool s_.a2, .bool s_.a3, .bool s_.a4, .bool s_.a5, .bool s_.a6, .bool s_.a7] : List Value), 0⟩] w' ∧ Heap.le h ad ∧ Cells ad x_v10 ah ∧ bo ≤ n ∧ lane_Yard_breaks_1_l1 bo s_ more y x_v10 x_v11 = some ax) n ?_ ?_
   ·
    exact Exists.intro x14 ⟨from_, aj, am, (vs_out ++ ([.bool s_.a0, .bool s_.a1, .bool s_.a2, .bool s_.a3, .bool s_.a4, .bool s_.a5, .bool s_.a6, .bool s_.a7] : List Value)), _, _, rfl, ci.kp, bm, (Heap.le_refl _), b2, Nat.le_refl _, bf⟩
   ·
    rintro aw _ dr ⟨x_v10, x_v11, x, z, ah, bc, ad, rfl, cj, af, s, aq, da, d⟩
    clear bf
    obtain _ | aw := aw
    ·
     rw [lane_Yard_breaks_1_l1] at d; cases d
    rw [lane_Yard_breaks_1_l1] at d
    replace au := au.mono s
    replace av := av.mono s
    replace hb_y := hb_y.mono s
    replace hc_take := hc_take.mono s
    replace q := q.mono s
    refine wp_seq (wp_seq ?_)
    obtain ⟨bp, ao, d⟩ := bnd d
    refine wp_mid' (fun a' w' => ∃ (bd : Array Value) (ap : Heap), a' = ⟨bd, []⟩ ∧ Kn 37 (K74e1 b_out b_y b_take a) [(tI 9 x_v11), (tP 6 3 0), (tI 2 more), (tP 4 1 0), (tP 5 2 0), (tB 24 bp)] bd ∧ Mem F ap (K74e1 b_out b_y b_take a) [⟨[.slice x x_v10.length z], some 84⟩, ⟨(K74c2 f y k g l), none⟩, ⟨(K74c5 b_out b_y b_take), none⟩, ⟨(K74c3 s_), some 74⟩] [⟨x, x_v10.length, z, 74, 8, ah, 0⟩, ⟨u, 1, 1, 74, 8, ([.bool s_.a0, .bool s_.a1, .bool s_.a2, .bool s_.a3, .bool s_.a4, .bool s_.a5, .bool s_.a6, .bool s_.a7] : List Value), 0⟩] w' ∧ Heap.le ad ap) ?_ ?_
    ·
     refine wp_region_from (Rk 0 6 ((tB 21 (decide (x_v11 < ((y.buses.length : Nat) : Int)))) :: (K74m6 x_v11 more)) cj af fun bs bg => ?_)
     rcases Bool.eq_false_or_eq_true (decide (x_v11 < ((y.buses.length : Nat) : Int))) with ae | ae
     ·
      rw [ae, cond_true] at ao
      have ck : Kn 37 (K74e1 b_out b_y b_take a) ((tB 21 true) :: (K74m6 x_v11 more)) bs := (bg.setB 21 true (by rfl) ae).kp
      refine Rk 6 3 ((tB 24 (decide (more > 0))) :: (K74m6 x_v11 more)) ck af fun dh cl => ?_
      refine wf ?_
      obtain rfl := Option.some.inj ao
      exact Exists.intro _ ⟨_, rfl, cl.kp, af, (Heap.le_refl _)⟩
     ·
      rw [ae, cond_false] at ao
      have cm : Kn 37 (K74e1 b_out b_y b_take a) ((tB 21 false) :: (K74m6 x_v11 more)) bs := (bg.setB 21 false (by rfl) ae).kp
      refine Rk 6 3 ((tB 24 false) :: (K74m6 x_v11 more)) cm af fun di cn => ?_
      refine wf ?_
      obtain rfl := Option.some.inj ao
      exact Exists.intro _ ⟨_, rfl, cn.kp, af, (Heap.le_refl _)⟩
    ·
     rintro _ ds ⟨bd, ap, rfl, a8, a9, m⟩
     replace au := au.mono m
     replace av := av.mono m
     replace hb_y := hb_y.mono m
     replace hc_take := hc_take.mono m
     replace aq := aq.mono m
     replace q := q.mono m
     refine wC (bp) a8 (fun az => ?_) (fun az => ?_)
     ·
      rw [cond_t az] at d
      refine wp_skip (wp_seq (wp_block (wp_seq (wp_region_from (Rk 0 1 ((tA 27 (K74c3 s_)) :: (K74m6 x_v11 more)) a8 a9 fun dj co => ?_)))))
      refine wl fun K hK => ?_
      refine wa [.bool false, .bool false, .bool false, .bool false, .bool false, .bool false, .bool false, .bool false] co a9 fun p bu dt (cp : Kn 37 [(b_out, 0), (b_y, 0), (b_take, 0), (a, 0), (p, 0)] ((tP 10 4 0) :: (tA 27 (K74c3 s_)) :: (K74m6 x_v11 more)) bu) c0 => hK _ _ ?_
      refine wl fun K hK => ?_
      refine wst 4 0 (.agg (K74c3 s_)) (K74c3 s_) cp c0 fun du cq bn => hK _ _ ?_
      have cr : Kn 37 [(b_out, 0), (b_y, 0), (b_take, 0), (a, 0), (p, 0)] ((tP 10 4 0) :: (K74m6 x_v11 more)) bu := cq.kp
      refine wf (wp_seq (wp_region_from (Rk 0 1 ((tI 28 x_v11) :: (tP 10 4 0) :: (K74m6 x_v11 more)) cr bn fun dk bh => ?_)))
      obtain ⟨x29, ex29, d⟩ := bnd d
      obtain ⟨c1, c2⟩ := rng_some ex29
      refine R_one 1 (.one (.c (.ptr 4 (0 + (x_v11 : Int).toNat * 1)))) rfl (rfl) rfl (run_indexA (E := 4) bh rfl (by kernel_rfl) (by kernel_rfl) (by rfl) (by rfl) c1 c2) (bh.put (by decide) _) fun bv (ct : Kn 37 [(b_out, 0), (b_y, 0), (b_take, 0), (a, 0), (p, 0)] ((tP 29 4 (0 + (x_v11 : Int).toNat * 1)) :: (tI 28 x_v11) :: (tP 10 4 0) :: (K74m6 x_v11 more)) bv) => ?_
      obtain ⟨b, bw, d⟩ := bnd d
      obtain ⟨db, dc, c4⟩ := Some.setI_some bw
      refine wl fun K hK => ?_
      refine wp_store 4 (0 + (x_v11 : Int).toNat * 1) (.c (.bool true)) (K74c4 b) ct bn rfl rfl (by rfl) (by rfl) (by rfl) (by kernel_rfl) (by refine decide_eq_true ?_; show (0 + (x_v11 : Int).toNat * 1) + 1 ≤ 8; omega) (arr_set (fun (y : Bool) => ([.bool y] : List SC)) 1 (fun _ => rfl) [] [] s_.toL b.toL (x_v11 : Int).toNat true c4 (show (x_v11 : Int).toNat < 8 by omega) rfl rfl rfl) fun dw b6 bj => hK _ _ ?_
      have b7 : Kn 37 [(b_out, 0), (b_y, 0), (b_take, 0), (a, 0), (p, 0)] ((tP 10 4 0) :: (K74m6 x_v11 more)) bv := b6.kp
      refine wf (wp_region_from (Rk 0 6 ((tI 35 (IntKind.i64.wrap (more - 1))) :: (tI 33 (IntKind.i64.wrap (x_v11 + 1))) :: (tA 31 (K74c4 b)) :: (30, .one (.c (.func (.func 74) #[] #[.pointer (some ⟨b_out, 0, none⟩), .pointer (some ⟨b_y, 0, none⟩), .pointer (some ⟨b_take, 0, none⟩)]))) :: (K74m6 x_v11 more)) b7 bj fun dd b8 => ?_))
      obtain ⟨x36, ex36, d⟩ := bnd d
      obtain ⟨c7, c8, cu, c3⟩ := bj.lend0 [0] [0] (by kernel_rfl) (by kernel_rfl) (by kernel_rfl) (by kernel_rfl)
      refine wl fun K hK => ?_
      refine wp_callVM (.func (.func 74) #[] #[.pointer (some ⟨b_out, 0, none⟩), .pointer (some ⟨b_y, 0, none⟩), .pointer (some ⟨b_take, 0, none⟩)]) [.agg (K74c4 b), .c (.int .i64 (IntKind.i64.wrap (x_v11 + 1))), .c (.int .i64 (IntKind.i64.wrap (more - 1)))] _ b8 rfl rfl (by decide) (by rfl) (by rfl) rfl ⟨74, _, _, rfl, fun _ _ => by kernel_rfl, ih aw (by omega) _ _ _ _ _ _ b _ ((rep_pair rep_bool (rep_pair rep_bool (rep_pair rep_bool (rep_pair rep_bool (rep_pair rep_bool (rep_pair rep_bool (rep_pair rep_bool rep_bool))))))) : rep ap b _) (IntKind.i64.wrap (x_v11 + 1)) (IntKind.i64.wrap (more - 1)) x_v10 _ _ _ aq y hb_y hc_take cu _ ex36⟩ fun dl c6 bz => ?_
      obtain ⟨b0, ai, al, be, bi, rfl, b1, cx⟩ := bz
      have ar := c3 _ _ _ [⟨ai, x36.length, al, 74, 8, be, 0⟩] bi rfl (Nat.le_of_ble_eq_true rfl) (by kernel_rfl) cx
      replace ar : Mem F b0 [(b_out, 0), (b_y, 0), (b_take, 0), (a, 0), (p, 0)] [⟨[.slice ai x36.length al], some 84⟩, ⟨(K74c2 f y k g l), none⟩, ⟨(K74c5 b_out b_y b_take), none⟩, ⟨(K74c3 s_), some 74⟩, ⟨(K74c4 b), some 74⟩] [⟨ai, x36.length, al, 74, 8, be, 0⟩, ⟨u, 1, 1, 74, 8, ([.bool s_.a0, .bool s_.a1, .bool s_.a2, .bool s_.a3, .bool s_.a4, .bool s_.a5, .bool s_.a6, .bool s_.a7] : List Value), 0⟩] c6 := ar
      refine ⟨.tup [], rfl, fun bq (ca : Kn 37 [(b_out, 0), (b_y, 0), (b_take, 0), (a, 0), (p, 0)] ((36, .tup []) :: (tI 35 (IntKind.i64.wrap (more - 1))) :: (tI 33 (IntKind.i64.wrap (x_v11 + 1))) :: (tA 31 (K74c4 b)) :: (30, .one (.c (.func (.func 74) #[] #[.pointer (some ⟨b_out, 0, none⟩), .pointer (some ⟨b_y, 0, none⟩), .pointer (some ⟨b_take, 0, none⟩)]))) :: (K74m6 x_v11 more)) bq) => hK _ _ ?_⟩
      have cb : Kn 37 [(b_out, 0), (b_y, 0), (b_take, 0), (a, 0), (p, 0)] (K74m6 x_v11 more) bq := ca.kp
      refine wf (wp_region_from (Rk 0 3 [(tI 9 (IntKind.i64.wrap (x_v11 + 1))), (tP 6 3 0), (tI 2 more), (tP 4 1 0), (tP 5 2 0)] cb ar fun de cc => ?_))
      refine wf ?_
      exact Exists.intro aw ⟨Nat.lt_succ_self _, Exists.intro x36 ⟨(IntKind.i64.wrap (x_v11 + 1)), ai, al, be, _, _, rfl, ((cc.keep [9, 6, 2, 4, 5] (by rfl)).cut 4 (by kernel_rfl)), (ar.cutPl 4 (by kernel_rfl)), (Heap.le_trans s (Heap.le_trans m bi)), b1, (by omega), d⟩⟩
     ·
      rw [cond_f az] at d
      refine wp_exit ?_
      obtain rfl := Option.some.inj d
      exact Exists.intro x ⟨z, ah, _, _, rfl, a8.kp, a9, (Heap.le_trans s m), aq⟩
  ·
   rintro _ dm ⟨ak, an, ay, bb, ac, rfl, c9, cy, cw, b3⟩
   obtain rfl := Option.some.inj H
   exact endM_of rfl ⟨ac, ak, an, ay, cw, rfl, b3, ((cy.cutRw 1).cutPl 1 (by kernel_rfl))⟩
theorem lane_Yard_breaks_1_ok (n : Nat) {F : Fr} {h : Heap} {w : World} {b_out b_y b_take : Nat} (s_ : Some) {cs_s_ : List Value} (hx_s_ : rep h s_ cs_s_) (from_ : Int) (more : Int) (out : List Some) {a_out : Option Addr} {c_out : Nat} {vs_out : List Value} (hc_out : Cells h out vs_out) (y : Yard) (hb_y : BoxS h b_y y) (hc_take : CellsAt h b_take [.func (.func 74) #[] #[.pointer (some ⟨b_out, 0, none⟩), .pointer (some ⟨b_y, 0, none⟩), .pointer (some ⟨b_take, 0, none⟩)]]) (hm : Mem F h [(b_out, 0)] [⟨[.slice a_out out.length c_out], some 84⟩] [⟨a_out, out.length, c_out, 74, 8, vs_out, 0⟩] w) {r : List Some} (H : lane_Yard_breaks_1 n s_ from_ more out y = some r) :
  Calls Try.prog 74 #[.agg cs_s_.toArray, .int .i64 from_, .int .i64 more, .pointer (some ⟨b_out, 0, none⟩), .pointer (some ⟨b_y, 0, none⟩), .pointer (some ⟨b_take, 0, none⟩)] w (RetM fun v w' => ∃ (h' : Heap) (aa : Option Addr) (ab : Nat) (ag : List Value), Heap.le h h' ∧ (v = .tuple #[]) ∧ Cells h' r ag ∧ Mem F h' [(b_out, 0)] [⟨[.slice aa r.length ab], some 84⟩] [⟨aa, r.length, ab, 74, 8, ag, 0⟩] w') := lane_Yard_breaks_1_rec n F h w b_out b_y b_take s_ cs_s_ hx_s_ from_ more out a_out c_out vs_out hc_out y hb_y hc_take hm r H
abbrev K47c1 (g : Option Addr) (y : Yard) (k : Nat) (j : Option Addr) (l : Nat) : List SC := [.slice g y.room.length k, .slice j y.buses.length l, .int .i64 y.broken]
abbrev K47c2 : List SC := [.bool false, .bool false, .bool false, .bool false, .bool false, .bool false, .bool false, .bool false]
abbrev K47c3 (d b f : Nat) : List SC := [.func (.func 74) #[] #[.pointer (some ⟨d, 0, none⟩), .pointer (some ⟨b, 0, none⟩), .pointer (some ⟨f, 0, none⟩)]]
set_option maxRecDepth 100000 in
set_option maxHeartbeats 4000000 in
theorem lane_Yard_breaks_ok (n : Nat) {h : Heap} {w : World} (hh : Has h w) (y : Yard) {cs_y : List Value} (hx_y : rep h y cs_y) {r : List Some} (H : lane_Yard_breaks n y = some r) :
  Calls Try.prog 47 #[.agg cs_y.toArray] w (Ret (fun h v => ∃ a c, v = .slice a r.length c ∧ RepS h a c r) h w) := by
 obtain ⟨_, _, rfl, ⟨g, k, rfl, ae⟩, ⟨_, _, rfl, ⟨j, l, rfl, af⟩, rfl⟩⟩ := hx_y
 refine enter 11 [.agg (K47c1 g y k j l)] Try.func47 rfl rfl rfl rfl fun t hk => ?_
 have hm := Mem.begin h w hh
 unfold lane_Yard_breaks at H
 refine wp_seq (wp_region_from (wl fun K hK => ?_))
 refine wb (.agg (K47c1 g y k j l)) hk hm fun b bm bw (aw : Kn 11 [(b, 0)] [(tP 1 0 0), (tA 0 (K47c1 g y k j l))] bm) bc => hK _ _ ?_
 refine wl fun K hK => ?_
 refine wa [.slice none 0 0] aw bc fun d am bv (ax : Kn 11 [(b, 0), (d, 0)] [(tP 2 1 0), (tP 1 0 0), (tA 0 (K47c1 g y k j l))] am) bd => hK _ _ ?_
 have ay : Kn 11 [(b, 0), (d, 0)] [(tP 2 1 0), (tP 1 0 0)] am := ax.kp
 refine wf (wp_seq (wp_region_from (wl fun K hK => ?_)))
 refine wa [.nilfunc] ay bd fun f bk bn (az : Kn 11 [(b, 0), (d, 0), (f, 0)] [(tP 3 2 0), (tP 2 1 0), (tP 1 0 0)] bk) be => hK _ _ ?_
 refine wf (wp_seq (wp_region_from ?_))
 obtain ⟨p, ai, ah, ab⟩ := be.settlePlc (i := 0) rfl
 replace ae := ae.mono ai
 replace af := af.mono ai
 replace ab : Mem ⟨w, h, noX⟩ p [(b, 0), (d, 0), (f, 0)] [⟨(K47c1 g y k j l), none⟩, ⟨[.slice none 0 0], some 84⟩, ⟨[.nilfunc], some 124⟩] [] bn := ab
 have x : BoxS p b (y : Yard) := BoxS.of (e := [(b, 0), (d, 0), (f, 0)]) (cs := (K47c1 g y k j l)) ((rep_pair (rep_slice ae) (rep_pair (rep_slice af) rep_int)) : rep p (y : Yard) _) rfl ah
 have bs : CellsAt p b [.slice g y.room.length k, .slice j y.buses.length l, .int .i64 y.broken] := CellsAt.of (e := [(b, 0), (d, 0), (f, 0)]) (cs := [.slice g y.room.length k, .slice j y.buses.length l, .int .i64 y.broken]) rfl ah
 refine R_func 0 #[] #[.pointer (some ⟨d, 0, none⟩), .pointer (some ⟨b, 0, none⟩), .pointer (some ⟨f, 0, none⟩)] az rfl rfl (rfl) rfl (by decide) (by rfl) (by rfl) (by rfl) (by rfl) fun an (a0 : Kn 11 [(b, 0), (d, 0), (f, 0)] [(4, .one (.c (.func (.func 74) #[] #[.pointer (some ⟨d, 0, none⟩), .pointer (some ⟨b, 0, none⟩), .pointer (some ⟨f, 0, none⟩)]))), (tP 3 2 0), (tP 2 1 0), (tP 1 0 0)] an) => ?_
 refine wl fun K hK => ?_
 refine wst 2 0 (.c (.func (.func 74) #[] #[.pointer (some ⟨d, 0, none⟩), .pointer (some ⟨b, 0, none⟩), .pointer (some ⟨f, 0, none⟩)])) (K47c3 d b f) a0 ab fun ap a1 ak => hK _ _ ?_
 have a2 : Kn 11 [(b, 0), (d, 0), (f, 0)] [(tP 3 2 0), (tP 2 1 0), (tP 1 0 0)] an := a1.kp
 refine wf (wp_seq (wp_region_from (Rk 0 4 [(tI 8 y.broken), (tA 6 K47c2), (5, .one (.c (.func (.func 74) #[] #[.pointer (some ⟨d, 0, none⟩), .pointer (some ⟨b, 0, none⟩), .pointer (some ⟨f, 0, none⟩)]))), (tP 2 1 0)] a2 ak fun bt a3 => ?_)))
 have bf : Mem ⟨w, h, noX⟩ p [(b, 0), (d, 0), (f, 0)] [⟨(K47c1 g y k j l), none⟩, ⟨[.slice none 0 0], some 84⟩, ⟨(K47c3 d b f), some 124⟩] [⟨none, 0, 0, 74, 8, ([] : List Value), 0⟩] ap := ak.nilRow 74 8
 have z : Cells p ([] : List Some) [] := Cells.nil
 obtain ⟨u, aj, av, ac⟩ := bf.settlePlc (i := 2) rfl
 replace x := x.mono aj
 replace z := z.mono aj
 replace ac : Mem ⟨w, h, noX⟩ u [(b, 0), (d, 0), (f, 0)] [⟨(K47c1 g y k j l), none⟩, ⟨[.slice none 0 0], some 84⟩, ⟨(K47c3 d b f), none⟩] [⟨none, 0, 0, 74, 8, ([] : List Value), 0⟩] ap := ac
 have au : CellsAt u f [.func (.func 74) #[] #[.pointer (some ⟨d, 0, none⟩), .pointer (some ⟨b, 0, none⟩), .pointer (some ⟨f, 0, none⟩)]] := CellsAt.of (e := [(b, 0), (d, 0), (f, 0)]) (cs := [.func (.func 74) #[] #[.pointer (some ⟨d, 0, none⟩), .pointer (some ⟨b, 0, none⟩), .pointer (some ⟨f, 0, none⟩)]]) rfl av
 obtain ⟨x9, ex9, H⟩ := bnd H
 obtain ⟨bq, br, a9, bi⟩ := ac.lend0 [1] [0] (by kernel_rfl) (by kernel_rfl) (by kernel_rfl) (by kernel_rfl)
 refine wl fun K hK => ?_
 refine wp_callVM (.func (.func 74) #[] #[.pointer (some ⟨d, 0, none⟩), .pointer (some ⟨b, 0, none⟩), .pointer (some ⟨f, 0, none⟩)]) [.agg K47c2, .c (.int .i64 0), .c (.int .i64 y.broken)] _ a3 rfl rfl (by decide) (by rfl) (by rfl) rfl ⟨74, _, _, rfl, fun _ _ => by kernel_rfl, lane_Yard_breaks_1_ok n (Some.mk false false false false false false false false) ((rep_pair rep_bool (rep_pair rep_bool (rep_pair rep_bool (rep_pair rep_bool (rep_pair rep_bool (rep_pair rep_bool (rep_pair rep_bool rep_bool))))))) : rep u (Some.mk false false false false false false false false) _) 0 y.broken ([] : List Some) z y x au a9 ex9⟩ fun bu bo aq => ?_
 obtain ⟨ar, m, o, s, ba, rfl, aa, bg⟩ := aq
 have q := bi _ _ _ [⟨m, x9.length, o, 74, 8, s, 0⟩] ba rfl (Nat.le_of_ble_eq_true rfl) (by kernel_rfl) bg
 replace q : Mem ⟨w, h, noX⟩ ar [(b, 0), (d, 0), (f, 0)] [⟨(K47c1 g y k j l), none⟩, ⟨[.slice m x9.length o], some 84⟩, ⟨(K47c3 d b f), none⟩] [⟨m, x9.length, o, 74, 8, s, 0⟩] bo := q
 refine ⟨.tup [], rfl, fun ao (a4 : Kn 11 [(b, 0), (d, 0), (f, 0)] [(9, .tup []), (tI 8 y.broken), (tA 6 K47c2), (5, .one (.c (.func (.func 74) #[] #[.pointer (some ⟨d, 0, none⟩), .pointer (some ⟨b, 0, none⟩), .pointer (some ⟨f, 0, none⟩)]))), (tP 2 1 0)] ao) => hK _ _ ?_⟩
 have a5 : Kn 11 [(b, 0), (d, 0), (f, 0)] [(tP 2 1 0)] ao := a4.kp
 refine wf (wp_seq (wp_region_from (Rk 0 1 [(tS 10 m x9.length o), (tP 2 1 0)] a5 q fun bl a6 => ?_)))
 refine wl fun K hK => ?_
 refine wst 1 0 (.c (.slice m x9.length o)) [.slice m x9.length o] a6 q fun bp a7 al => hK _ _ ?_
 have a8 : Kn 11 [(b, 0), (d, 0), (f, 0)] [(tP 2 1 0)] bl := a7.kp
 refine wf (wp_ret ?_)
 obtain ⟨ag, bb, bj, ad⟩ := al.settle (i := 0) rfl
 replace aa := aa.mono bb
 replace ad : Mem ⟨w, h, noX⟩ ag [(b, 0), (d, 0), (f, 0)] [⟨(K47c1 g y k j l), none⟩, ⟨[.slice m x9.length o], some 84⟩, ⟨(K47c3 d b f), none⟩] [⟨m, x9.length, o, 74, 8, s, (s : List Value).length⟩] bp := ad
 have bh : RepS ag m o x9 := ⟨_, aa, bj, al.rowCap (i := 0) rfl⟩
 obtain rfl := Option.some.inj H
 exact rt (.one (.c (.slice m x9.length o))) a8 ad ⟨_, _, rfl, bh⟩
set_option maxRecDepth 100000 in
set_option maxHeartbeats 4000000 in
theorem lane_Bus_early_ok (n : Nat) {h : Heap} {w : World} (hh : Has h w) (b : Bus) {cs_b : List Value} (hx_b : rep h b cs_b) {r : Int} (H : lane_Bus_early n b = some r) :
  Calls Try.prog 97 #[.agg cs_b.toArray] w (Ret (fun h v => v = .int .i64 r) h w) := by
 obtain ⟨_, _, rfl, rfl, ⟨_, _, rfl, rfl, rfl⟩⟩ := hx_b
 refine enter 5 [.agg [.int .i64 b.lo, .int .i64 b.hi, .int .i64 b.turn]] Try.func97 rfl rfl rfl rfl fun t hk => ?_
 have hm := Mem.begin h w hh
 unfold lane_Bus_early at H
 refine wp_seq (wp_region_from (wl fun K hK => ?_))
 refine wb (.agg [.int .i64 b.lo, .int .i64 b.hi, .int .i64 b.turn]) hk hm fun d i l (e : Kn 5 [(d, 0)] [(tP 1 0 0), (tA 0 [.int .i64 b.lo, .int .i64 b.hi, .int .i64 b.turn])] i) a => hK _ _ ?_
 refine Rk 1 1 [(tP 1 0 0)] e a fun j f => ?_
 refine wf (wp_seq (wp_region_from (Rk 0 3 [(tI 2 b.lo)] f a fun k g => ?_)))
 refine wf (wp_ret ?_)
 obtain rfl := Option.some.inj H
 exact rt (.one (.c (.int .i64 b.lo))) g a rfl
set_option maxRecDepth 100000 in
set_option maxHeartbeats 4000000 in
theorem lane_Bus_late_ok (n : Nat) {h : Heap} {w : World} (hh : Has h w) (b : Bus) {cs_b : List Value} (hx_b : rep h b cs_b) {r : Int} (H : lane_Bus_late n b = some r) :
  Calls Try.prog 98 #[.agg cs_b.toArray] w (Ret (fun h v => v = .int .i64 r) h w) := by
 obtain ⟨_, _, rfl, rfl, ⟨_, _, rfl, rfl, rfl⟩⟩ := hx_b
 refine enter 5 [.agg [.int .i64 b.lo, .int .i64 b.hi, .int .i64 b.turn]] Try.func98 rfl rfl rfl rfl fun t hk => ?_
 have hm := Mem.begin h w hh
 unfold lane_Bus_late at H
 refine wp_seq (wp_region_from (wl fun K hK => ?_))
 refine wb (.agg [.int .i64 b.lo, .int .i64 b.hi, .int .i64 b.turn]) hk hm fun d i l (e : Kn 5 [(d, 0)] [(tP 1 0 0), (tA 0 [.int .i64 b.lo, .int .i64 b.hi, .int .i64 b.turn])] i) a => hK _ _ ?_
 refine Rk 1 1 [(tP 1 0 0)] e a fun j f => ?_
 refine wf (wp_seq (wp_region_from (Rk 0 3 [(tI 2 b.hi)] f a fun k g => ?_)))
 refine wf (wp_ret ?_)
 obtain rfl := Option.some.inj H
 exact rt (.one (.c (.int .i64 b.hi))) g a rfl
set_option maxRecDepth 100000 in
set_option maxHeartbeats 4000000 in
theorem lane_ways_ok (n : Nat) {h : Heap} {w : World} (hh : Has h w)  {r : List Comes} (H : lane_ways n  = some r) :
  Calls Try.prog 76 #[] w (Ret (fun h v => ∃ a c, v = .slice a r.length c ∧ RepS h a c r) h w) := by
 refine enter 4 [] Try.func76 rfl rfl rfl rfl fun t hk => ?_
 have hm := Mem.begin h w hh
 unfold lane_ways at H
 refine wp_seq (wp_region_from (Rk 0 1 [] hk hm fun x k => ?_))
 refine wf (wp_seq (wp_region_from (Rk 0 2 [(tA 2 [.func (.func 98) #[] #[]]), (tA 1 [.func (.func 97) #[] #[]])] k hm fun z l => ?_)))
 refine wl fun K hK => ?_
 refine wS 135 1 [.func (.func 97) #[] #[], .func (.func 98) #[] #[]] l hm fun b s u (m : Kn 4 [] [(tS 3 b 2 2), (tA 2 [.func (.func 98) #[] #[]]), (tA 1 [.func (.func 97) #[] #[]])] s) f => ?_
 have d : Cells h ([(Comes.mk (fun (y0 : Bus) => lane_Bus_early n y0)), (Comes.mk (fun (y0 : Bus) => lane_Bus_late n y0))] : List Comes) ([.func (.func 97) #[] #[], .func (.func 98) #[] #[]] : List Value) := ⟨_, _, rfl, (⟨_, _, _, rfl, (show Fn5 h (.func (.func 97) #[] #[]) (fun (y0 : Bus) => lane_Bus_early n y0) from fun h2 w2 hle hh y0 cs0 hy0 r H => ⟨97, _, _, rfl, fun _ _ => by kernel_rfl, lane_Bus_early_ok n hh y0 hy0 H⟩)⟩ : rep h ((Comes.mk (fun (y0 : Bus) => lane_Bus_early n y0)) : Comes) _), ⟨_, _, rfl, (⟨_, _, _, rfl, (show Fn5 h (.func (.func 98) #[] #[]) (fun (y0 : Bus) => lane_Bus_late n y0) from fun h2 w2 hle hh y0 cs0 hy0 r H => ⟨98, _, _, rfl, fun _ _ => by kernel_rfl, lane_Bus_late_ok n hh y0 hy0 H⟩)⟩ : rep h ((Comes.mk (fun (y0 : Bus) => lane_Bus_late n y0)) : Comes) _), rfl⟩⟩
 refine hK _ _ ?_
 refine Rk 3 1 [(tS 0 b 2 2)] m f fun y j => ?_
 refine wf (wp_ret ?_)
 obtain ⟨g, o, q, e⟩ := f.settle (i := 0) rfl
 replace d := d.mono o
 replace e : Mem ⟨w, h, noX⟩ g [] [] [⟨b, 2, 2, 135, 1, ([.func (.func 97) #[] #[], .func (.func 98) #[] #[]] : List Value), (([.func (.func 97) #[] #[], .func (.func 98) #[] #[]] : List Value) : List Value).length⟩] u := e
 have p : RepS g b 2 ([(Comes.mk (fun (y0 : Bus) => lane_Bus_early n y0)), (Comes.mk (fun (y0 : Bus) => lane_Bus_late n y0))] : List Comes) := ⟨_, d, q, f.rowCap (i := 0) rfl⟩
 obtain rfl := Option.some.inj H
 exact rt (.one (.c (.slice b 2 2))) j e ⟨_, _, rfl, p⟩
theorem Stand.KL : KL Try.prog 129 Stand := by
  refine KL.struct 5 (by decide) (fun x => [.int .i64 x.behind, .int .i64 x.last]) (fun _ => rfl) (by kernel_rfl) (fun _ => by kernel_rfl) (fun _ => by kernel_rfl) fun a b => ⟨((a.behind == b.behind) && ((a.last == b.last) && true)), by kernel_rfl, ?_⟩
  rcases a with ⟨a0, a1⟩
  rcases b with ⟨b0, b1⟩
  simp [and_assoc]
abbrev K75c1 (s_ : Stand) : List SC := [.int .i64 s_.behind, .int .i64 s_.last]
abbrev K75c2 (ai : Option Addr) (c : Column) (ak : Nat) : List SC := [.slice ai c.buses.length ak, .int .i64 c.down]
abbrev K75c3 (x49 : Bus) : List SC := [.int .i64 x49.lo, .int .i64 x49.hi, .int .i64 x49.turn]
abbrev K75c4 (s_ : Stand) (an : Int) : List SC := [.int .i64 (IntKind.i64.wrap (s_.behind + 1)), .int .i64 an]
abbrev K75c5 (s_ : Stand) : List SC := [.int .i64 (IntKind.i64.wrap (s_.behind + 1)), .int .i64 s_.last]
abbrev K75c6 (ao : Option Addr) (y : Yard) (ap : Nat) (aj : Option Addr) (al : Nat) : List SC := [.slice ao y.room.length ap, .slice aj y.buses.length al, .int .i64 y.broken]
abbrev K75c7 : List SC := [.int .i64 0, .int .i64 0, .int .i64 0, .int .i64 0, .int .i64 0, .int .i64 0, .int .i64 0, .int .i64 0, .int .i64 0]
abbrev K75e8 (b_c b_known b_y b_look f g l m p : Nat) (s_ : Stand) (q : Nat) : Env := [(b_c, 0), (b_known, 0), (b_y, 0), (b_look, 0), (f, 0), (g, 0), (l, 0), (m, p + (s_.behind : Int).toNat * 1), (q, 0)]
abbrev K75c9 (b_c b_known b_y b_look : Nat) : List SC := [.func (.func 75) #[] #[.pointer (some ⟨b_c, 0, none⟩), .pointer (some ⟨b_known, 0, none⟩), .pointer (some ⟨b_y, 0, none⟩), .pointer (some ⟨b_look, 0, none⟩)]]
abbrev K75c10 (x_v12 : Int) (x_v11 : Places) : List SC := [.int .i64 x_v12, .int .i64 x_v11.a0, .int .i64 x_v11.a1, .int .i64 x_v11.a2, .int .i64 x_v11.a3, .int .i64 x_v11.a4, .int .i64 x_v11.a5, .int .i64 x_v11.a6, .int .i64 x_v11.a7]
abbrev K75c11 (ad : (Places × Int × (List (Stand × Found)))) : List SC := [.int .i64 ad.2.1, .int .i64 ad.1.a0, .int .i64 ad.1.a1, .int .i64 ad.1.a2, .int .i64 ad.1.a3, .int .i64 ad.1.a4, .int .i64 ad.1.a5, .int .i64 ad.1.a6, .int .i64 ad.1.a7]
abbrev K75c12 (az : Int) (x71 : (Found × (List (Stand × Found)))) : List SC := [.int .i64 az, .int .i64 x71.1.tm.a0, .int .i64 x71.1.tm.a1, .int .i64 x71.1.tm.a2, .int .i64 x71.1.tm.a3, .int .i64 x71.1.tm.a4, .int .i64 x71.1.tm.a5, .int .i64 x71.1.tm.a6, .int .i64 x71.1.tm.a7]
abbrev K75c13 (x26 : (Found × Bool)) : List SC := [.int .i64 x26.1.many, .int .i64 x26.1.tm.a0, .int .i64 x26.1.tm.a1, .int .i64 x26.1.tm.a2, .int .i64 x26.1.tm.a3, .int .i64 x26.1.tm.a4, .int .i64 x26.1.tm.a5, .int .i64 x26.1.tm.a6, .int .i64 x26.1.tm.a7]
abbrev K75c14 (x71 : (Found × (List (Stand × Found)))) : List SC := [.int .i64 x71.1.many, .int .i64 x71.1.tm.a0, .int .i64 x71.1.tm.a1, .int .i64 x71.1.tm.a2, .int .i64 x71.1.tm.a3, .int .i64 x71.1.tm.a4, .int .i64 x71.1.tm.a5, .int .i64 x71.1.tm.a6, .int .i64 x71.1.tm.a7]
abbrev K75e15 (b_c b_known b_y b_look f g l m p : Nat) (s_ : Stand) (q s u : Nat) (x_v10 : Int) (z aa ab : Nat) (x35 : Int) (ae : Nat) : Env := [(b_c, 0), (b_known, 0), (b_y, 0), (b_look, 0), (f, 0), (g, 0), (l, 0), (m, p + (s_.behind : Int).toNat * 1), (q, 0), (s, u + (x_v10 : Int).toNat * 1), (z, 0), (aa, ab + (x35 : Int).toNat * 3), (ae, 0)]
abbrev K75e16 (b_c b_known b_y b_look f g l m p : Nat) (s_ : Stand) (q s u : Nat) (x_v10 : Int) (z aa ab : Nat) (x35 : Int) (ae am : Nat) : Env := [(b_c, 0), (b_known, 0), (b_y, 0), (b_look, 0), (f, 0), (g, 0), (l, 0), (m, p + (s_.behind : Int).toNat * 1), (q, 0), (s, u + (x_v10 : Int).toNat * 1), (z, 0), (aa, ab + (x35 : Int).toNat * 3), (ae, 0), (am, 0)]
abbrev K75m17 (x_v10 : Int) (x37 : List Comes) (a : Option Addr) (d : Nat) (x35 : Int) : TM := [(tI 39 x_v10), (tI 38 ((x37.length : Nat) : Int)), (tS 37 a x37.length d), (tP 10 8 0), (tI 9 x35), (tP 6 5 0), (tP 5 4 0), (tP 1 0 0), (tP 2 1 0), (tP 3 2 0), (tP 4 3 0)]
abbrev K75m18 : TM := [(tP 6 5 0), (tP 5 4 0), (tP 1 0 0), (tP 2 1 0), (tP 3 2 0), (tP 4 3 0)]
abbrev K75m19 (s_ : Stand) (an : Int) (b_c b_known b_y b_look : Nat) (x51 x_v10 : Int) (x37 : List Comes) (a : Option Addr) (d : Nat) (x35 : Int) : TM := (tA 70 (K75c4 s_ an)) :: (69, .one (.c (.func (.func 75) #[] #[.pointer (some ⟨b_c, 0, none⟩), .pointer (some ⟨b_known, 0, none⟩), .pointer (some ⟨b_y, 0, none⟩), .pointer (some ⟨b_look, 0, none⟩)]))) :: (tI 13 x51) :: (tI 11 x_v10) :: (K75m17 x_v10 x37 a d x35)
abbrev K75m20 (x51 x_v10 : Int) (x37 : List Comes) (a : Option Addr) (d : Nat) (x35 : Int) : TM := (tI 13 x51) :: (tI 11 x_v10) :: (K75m17 x_v10 x37 a d x35)
set_option maxRecDepth 100000 in
set_option maxHeartbeats 4000000 in
theorem lane_Yard_worst_1_rec (n : Nat) : ∀ (F : Fr) (h : Heap) (w : World) (b_c b_known b_y b_look : Nat) (s_ : Stand) (cs_s_ : List Value) (hx_s_ : rep h s_ cs_s_) (c : Column) (hb_c : BoxS h b_c c) (known : List (Stand × Found)) (bm_known : Nat) (es_known : Array MapEntry) (cl_known : Nat) (hc_known : CellsAt h b_known [.map (some bm_known)]) (hX_known : F.X bm_known = some (.map es_known cl_known)) (hE_known : Ents h es_known.toList cl_known known) (y : Yard) (hb_y : BoxS h b_y y) (hc_look : CellsAt h b_look [.func (.func 75) #[] #[.pointer (some ⟨b_c, 0, none⟩), .pointer (some ⟨b_known, 0, none⟩), .pointer (some ⟨b_y, 0, none⟩), .pointer (some ⟨b_look, 0, none⟩)]]) (hm : Mem F h [] [] [] w) (r : Found × (List (Stand × Found))) (H : lane_Yard_worst_1 n s_ c known y = some r),
  Calls Try.prog 75 #[.agg cs_s_.toArray, .pointer (some ⟨b_c, 0, none⟩), .pointer (some ⟨b_known, 0, none⟩), .pointer (some ⟨b_y, 0, none⟩), .pointer (some ⟨b_look, 0, none⟩)] w (RetM fun v w' => ∃ (h' : Heap) (bp : Array MapEntry) (bn : Nat), Heap.le h h' ∧ (∃ cs, v = .agg cs.toArray ∧ rep h' r.1 cs) ∧ Ents h' bp.toList bn r.2 ∧ Mem (Fr.put F bm_known (some (.map bp bn))) h' [] [] [] w') := by
 induction n using Nat.strongRecOn with
 | _ n ih =>
  intro F h w b_c b_known b_y b_look s_ cs_s_ hx_s_ c hb_c known bm_known es_known cl_known hc_known hX_known hE_known y hb_y hc_look hm r H
  obtain _ | n := n
  ·
   rw [lane_Yard_worst_1] at H; cases H
  obtain ⟨_, _, rfl, rfl, rfl⟩ := hx_s_
  obtain ⟨_, hx_c, hc_c⟩ := id hb_c
  obtain ⟨_, _, rfl, ⟨ai, ak, rfl, ax⟩, rfl⟩ := hx_c
  obtain ⟨_, hx_y, hc_y⟩ := id hb_y
  obtain ⟨_, _, rfl, ⟨ao, ap, rfl, a8⟩, ⟨_, _, rfl, ⟨aj, al, rfl, ay⟩, rfl⟩⟩ := hx_y
  refine enter' (e := [(b_c, 0), (b_known, 0), (b_y, 0), (b_look, 0)]) 99 [.agg (K75c1 s_), .c (.ptr 0 0), .c (.ptr 1 0), .c (.ptr 2 0), .c (.ptr 3 0)] Try.func75 rfl rfl rfl rfl fun t hk => ?_
  replace hm := hm.addPlc (o := 0) (cs := [.slice ai c.buses.length ak, .int .i64 c.down]) (fun j c hj => by rw [Nat.zero_add]; exact hc_c j _ (map_get hj)) rfl (by kernel_rfl) (by kernel_rfl)
  replace hm := hm.addPlc (o := 0) (cs := [.map (some bm_known)]) (fun j c hj => by rw [Nat.zero_add]; exact hc_known j _ (map_get hj)) rfl (by kernel_rfl) (by kernel_rfl)
  replace hm := hm.addPlc (o := 0) (cs := [.slice ao y.room.length ap, .slice aj y.buses.length al, .int .i64 y.broken]) (fun j c hj => by rw [Nat.zero_add]; exact hc_y j _ (map_get hj)) rfl (by kernel_rfl) (by kernel_rfl)
  replace hm := hm.addPlc (o := 0) (cs := [.func (.func 75) #[] #[.pointer (some ⟨b_c, 0, none⟩), .pointer (some ⟨b_known, 0, none⟩), .pointer (some ⟨b_y, 0, none⟩), .pointer (some ⟨b_look, 0, none⟩)]]) (fun j c hj => by rw [Nat.zero_add]; exact hc_look j _ (map_get hj)) rfl (by kernel_rfl) (by kernel_rfl)
  rw [← Fr.put_self hX_known] at hm
  replace hm : Mem (Fr.put F bm_known (some (.map es_known cl_known))) h [(b_c, 0), (b_known, 0), (b_y, 0), (b_look, 0)] [⟨[.slice ai c.buses.length ak, .int .i64 c.down], none⟩, ⟨[.map (some bm_known)], none⟩, ⟨[.slice ao y.room.length ap, .slice aj y.buses.length al, .int .i64 y.broken], none⟩, ⟨[.func (.func 75) #[] #[.pointer (some ⟨b_c, 0, none⟩), .pointer (some ⟨b_known, 0, none⟩), .pointer (some ⟨b_y, 0, none⟩), .pointer (some ⟨b_look, 0, none⟩)]], none⟩] [] w := hm
  rw [lane_Yard_worst_1] at H
  refine wp_seq (wp_region_from (wl fun K hK => ?_))
  refine wb (.agg (K75c1 s_)) hk hm fun f g5 i4 (eb : Kn 99 [(b_c, 0), (b_known, 0), (b_y, 0), (b_look, 0), (f, 0)] [(tP 5 4 0), (tA 0 (K75c1 s_)), (tP 1 0 0), (tP 2 1 0), (tP 3 2 0), (tP 4 3 0)] g5) gf => hK _ _ ?_
  refine wl fun K hK => ?_
  refine wa K75c7 eb gf fun g dp i8 (er : Kn 99 [(b_c, 0), (b_known, 0), (b_y, 0), (b_look, 0), (f, 0), (g, 0)] [(tP 6 5 0), (tP 5 4 0), (tA 0 (K75c1 s_)), (tP 1 0 0), (tP 2 1 0), (tP 3 2 0), (tP 4 3 0)] dp) be => hK _ _ ?_
  have ev : Kn 99 [(b_c, 0), (b_known, 0), (b_y, 0), (b_look, 0), (f, 0), (g, 0)] K75m18 dp := er.kp
  refine wf (wp_seq (wp_seq (wp_region_from (Rk 0 6 ((tB 21 (s_.behind == ((c.buses.length : Nat) : Int))) :: K75m18) ev be fun ie ck => ?_))))
  refine wf (wC ((s_.behind == ((c.buses.length : Nat) : Int))) ck (fun cd => ?_) (fun cd => ?_))
  ·
   rw [cd, cond_true] at H
   refine wp_seq (wp_region_from (Rk 0 1 [(tA 22 K75c7), (tP 6 5 0)] ck be fun hf e6 => ?_))
   refine wl fun K hK => ?_
   refine wst 5 0 (.agg K75c7) K75c7 e6 be fun ji fc da => hK _ _ ?_
   have fj : Kn 99 [(b_c, 0), (b_known, 0), (b_y, 0), (b_look, 0), (f, 0), (g, 0)] [(tP 6 5 0)] hf := fc.kp
   refine wf (wp_ret ?_)
   obtain rfl := Option.some.inj H
   exact retM_of (.one (.agg K75c7)) fj da (by kernel_rfl) ⟨h, es_known, cl_known, (Heap.le_refl _), ⟨_, rfl, ((rep_pair rep_int (rep_pair rep_int (rep_pair rep_int (rep_pair rep_int (rep_pair rep_int (rep_pair rep_int (rep_pair rep_int (rep_pair rep_int rep_int)))))))) : rep h ((Found.mk 0 (Places.mk 0 0 0 0 0 0 0 0)) : Found) _)⟩, hE_known, ((da.cutRw 0).cutPl 0 (by kernel_rfl))⟩
  ·
   rw [cd, cond_false] at H
   refine wp_skip (wp_seq (wp_seq (wp_region_from (Rk 0 2 ((tA 25 (K75c1 s_)) :: (24, .one (.c (.map (some bm_known)))) :: K75m18) ck be fun im fr => ?_))))
   obtain ⟨x26, ex26, H⟩ := bnd H
   refine wl fun K hK => ?_
   refine wp_lookup (KT := 129) (E := 96) (k := (s_ : Stand)) ((Found.mk 0 (Places.mk 0 0 0 0 0 0 0 0)) : Found) (.agg (K75c1 s_)) fr rfl rfl (by decide) (by rfl) (by rfl) (by kernel_rfl) Stand.KL (be.ext (Fr.put_X _ _ _)) hE_known rfl (by kernel_rfl) ⟨_, rfl, ((rep_pair rep_int (rep_pair rep_int (rep_pair rep_int (rep_pair rep_int (rep_pair rep_int (rep_pair rep_int (rep_pair rep_int (rep_pair rep_int rep_int)))))))) : rep h ((Found.mk 0 (Places.mk 0 0 0 0 0 0 0 0)) : Found) _)⟩ fun i1 dk => ?_
   rw [Option.some.inj ex26] at dk ⊢
   obtain ⟨_, rfl, ⟨_, _, rfl, rfl, ⟨_, _, rfl, rfl, ⟨_, _, rfl, rfl, ⟨_, _, rfl, rfl, ⟨_, _, rfl, rfl, ⟨_, _, rfl, rfl, ⟨_, _, rfl, rfl, ⟨_, _, rfl, rfl, rfl⟩⟩⟩⟩⟩⟩⟩⟩⟩ := dk
   refine ⟨.tup [.agg (K75c13 x26), .c (.bool x26.2)], rfl, fun hn (fx : Kn 99 [(b_c, 0), (b_known, 0), (b_y, 0), (b_look, 0), (f, 0), (g, 0)] ((26, .tup [.agg (K75c13 x26), .c (.bool x26.2)]) :: (tA 25 (K75c1 s_)) :: (24, .one (.c (.map (some bm_known)))) :: K75m18) hn) => hK _ _ ?_⟩
   refine Rk 3 3 ((tB 28 x26.2) :: (tA 27 (K75c13 x26)) :: K75m18) fx be fun iq fy => ?_
   refine wl fun K hK => ?_
   refine wa K75c7 fy be fun l ho jo (fz : Kn 99 [(b_c, 0), (b_known, 0), (b_y, 0), (b_look, 0), (f, 0), (g, 0), (l, 0)] ((tP 7 6 0) :: (tB 28 x26.2) :: (tA 27 (K75c13 x26)) :: K75m18) ho) gl => hK _ _ ?_
   refine wl fun K hK => ?_
   refine wst 6 0 (.agg (K75c13 x26)) (K75c13 x26) fz gl fun jp f0 bk => hK _ _ ?_
   refine Rk 8 1 ((tB 8 x26.2) :: (tP 7 6 0) :: K75m18) f0 bk fun ir f1 => ?_
   refine wf (wp_seq (wp_region_from (Rk 0 1 ((tB 29 x26.2) :: (tP 7 6 0) :: K75m18) f1 bk fun iu cn => ?_)))
   refine wf (wC (x26.2) cn (fun cg => ?_) (fun cg => ?_))
   ·
    rw [cond_t cg] at H
    refine wp_seq (wp_region_from (Rk 0 1 [(tA 30 (K75c13 x26)), (tP 6 5 0)] cn bk fun hp f2 => ?_))
    refine wl fun K hK => ?_
    refine wst 5 0 (.agg (K75c13 x26)) (K75c13 x26) f2 bk fun jq f3 dg => hK _ _ ?_
    have f4 : Kn 99 [(b_c, 0), (b_known, 0), (b_y, 0), (b_look, 0), (f, 0), (g, 0), (l, 0)] [(tP 6 5 0)] hp := f3.kp
    refine wf (wp_ret ?_)
    obtain rfl := Option.some.inj H
    exact retM_of (.one (.agg (K75c13 x26))) f4 dg (by kernel_rfl) ⟨h, es_known, cl_known, (Heap.le_refl _), ⟨_, rfl, ((rep_pair rep_int (rep_pair rep_int (rep_pair rep_int (rep_pair rep_int (rep_pair rep_int (rep_pair rep_int (rep_pair rep_int (rep_pair rep_int rep_int)))))))) : rep h (x26.1 : Found) _)⟩, hE_known, ((dg.cutRw 0).cutPl 0 (by kernel_rfl))⟩
   ·
    rw [cond_f cg] at H
    refine wp_skip (wp_seq (wp_region_from (Rk 0 4 ((tI 34 s_.behind) :: (tS 32 ai c.buses.length ak) :: K75m18) cn bk fun iv f5 => ?_)))
    obtain ⟨x35, ex35, H⟩ := bnd H
    obtain ⟨gp, gu, g4⟩ := idx_some ex35
    obtain ⟨m, p, hz, d5, g0, d8⟩ := ax.get (by decide) g4
    obtain rfl := g0
    have dh := bk.addPlc (b := m) (o := p + (s_.behind : Int).toNat * 1) (cs := [.int .i64 x35]) (fun j c hj => d8 j _ (map_get hj)) rfl (by kernel_rfl) (by kernel_rfl)
    refine R_index 4 (s_.behind) rfl rfl (rfl) rfl (by decide) f5 (by rfl) (by rfl) (by rfl) d5 (by rfl) gp gu (by kernel_rfl) fun hq (f6 : Kn 99 [(b_c, 0), (b_known, 0), (b_y, 0), (b_look, 0), (f, 0), (g, 0), (l, 0), (m, p + (s_.behind : Int).toNat * 1)] ((tP 35 7 0) :: (tI 34 s_.behind) :: (tS 32 ai c.buses.length ak) :: K75m18) hq) => ?_
    refine Rk 5 2 ((tI 9 x35) :: K75m18) f6 dh fun iw f7 => ?_
    refine wf (wp_seq (wp_region_from (wl fun K hK => ?_)))
    refine wa K75c7 f7 dh fun q hr jr (f8 : Kn 99 (K75e8 b_c b_known b_y b_look f g l m p s_ q) ((tP 10 8 0) :: (tI 9 x35) :: K75m18) hr) di => hK _ _ ?_
    refine wf (wp_seq (wp_seq (wp_region_from ?_)))
    obtain ⟨x37, ex37, H⟩ := bnd H
    refine wl fun K hK => ?_
    refine wc [] f8 di (lane_ways_ok n di.has  ex37) fun i2 c1 js d0 ba dj => ?_
    replace ax := ax.mono ba
    replace hb_c := hb_c.mono ba
    replace hc_known := hc_known.mono ba
    replace a8 := a8.mono ba
    replace ay := ay.mono ba
    replace hb_y := hb_y.mono ba
    replace hc_look := hc_look.mono ba
    replace hE_known := hE_known.mono ba
    obtain ⟨a, d, rfl, bb⟩ := d0
    refine ⟨.one (.c (.slice a x37.length d)), rfl, fun hs (f9 : Kn 99 (K75e8 b_c b_known b_y b_look f g l m p s_ q) ((tS 37 a x37.length d) :: (tP 10 8 0) :: (tI 9 x35) :: K75m18) hs) => hK _ _ ?_⟩
    refine Rk 1 2 ((tI 39 0) :: (tI 38 ((x37.length : Nat) : Int)) :: (tS 37 a x37.length d) :: (tP 10 8 0) :: (tI 9 x35) :: K75m18) f9 dj fun ix ga => ?_
    refine wf ?_
    obtain ⟨ad, cx, H⟩ := bnd H
    refine wp_mid' (fun a' w' => ∃ (b9 : Array MapEntry) (b8 : Nat) (cv : Array Value) (bc : Heap), a' = ⟨cv, []⟩ ∧ Kn 99 (K75e8 b_c b_known b_y b_look f g l m p s_ q) [(tP 10 8 0), (tP 6 5 0), (tP 5 4 0), (tP 2 1 0)] cv ∧ Mem (Fr.put F bm_known (some (.map b9 b8))) bc (K75e8 b_c b_known b_y b_look f g l m p s_ q) [⟨(K75c2 ai c ak), none⟩, ⟨[.map (some bm_known)], none⟩, ⟨(K75c6 ao y ap aj al), none⟩, ⟨(K75c9 b_c b_known b_y b_look), none⟩, ⟨(K75c1 s_), some 129⟩, ⟨K75c7, some 96⟩, ⟨(K75c13 x26), some 96⟩, ⟨[.int .i64 x35], none⟩, ⟨(K75c11 ad), some 96⟩] [] w' ∧ Heap.le c1 bc ∧ Ents bc b9.toList b8 ad.2.2) ?_ ?_
    ·
     refine wp_block ?_
     refine wp_loop_n (fun dl a' w' => ∃ (x_v10 : Int) (x_v11 : Places) (x_v12 : Int) (x_v13 : List (Stand × Found)) (bh : Array MapEntry) (bf : Nat) (cq : Array Value) (br : Heap), a' = ⟨cq, []⟩ ∧ Kn 99 (K75e8 b_c b_known b_y b_look f g l m p s_ q) (K75m17 x_v10 x37 a d x35) cq ∧ Mem (Fr.put F bm_known (some (.map bh bf))) br (K75e8 b_c b_known b_y b_look f g l m p s_ q) [⟨(K75c2 ai c ak), none⟩, ⟨[.map (some bm_known)], none⟩, ⟨(K75c6 ao y ap aj al), none⟩, ⟨(K75c9 b_c b_known b_y b_look), none⟩, ⟨(K75c1 s_), some 129⟩, ⟨K75c7, some 96⟩, ⟨(K75c13 x26), some 96⟩, ⟨[.int .i64 x35], none⟩, ⟨(K75c10 x_v12 x_v11), some 96⟩] [] w' ∧ Heap.le c1 br ∧ Ents br bh.toList bf x_v13 ∧ dl ≤ n ∧ lane_Yard_worst_1_l1 dl s_ c y x35 x37 x_v10 x_v11 x_v12 x_v13 = some ad) n ?_ ?_
     ·
      exact Exists.intro 0 ⟨(Places.mk 0 0 0 0 0 0 0 0), 0, known, es_known, cl_known, _, _, rfl, ga.kp, dj, (Heap.le_refl _), hE_known, Nat.le_refl _, cx⟩
     ·
      rintro bl _ i3 ⟨x_v10, x_v11, x_v12, x_v13, bh, bf, cq, br, rfl, d9, b1, aw, bj, h1, ac⟩
      clear cx
      obtain _ | bl := bl
      ·
       rw [lane_Yard_worst_1_l1] at ac; cases ac
      rw [lane_Yard_worst_1_l1] at ac
      replace ax := ax.mono aw
      replace hb_c := hb_c.mono aw
      replace hc_known := hc_known.mono aw
      replace a8 := a8.mono aw
      replace ay := ay.mono aw
      replace hb_y := hb_y.mono aw
      replace hc_look := hc_look.mono aw
      replace bb := bb.mono aw
      refine wp_seq (wp_region_from (Rk 0 1 ((tB 40 (decide (x_v10 < ((x37.length : Nat) : Int)))) :: (K75m17 x_v10 x37 a d x35)) d9 b1 fun h4 ci => ?_))
      refine wf (wp_seq (wC (decide (x_v10 < ((x37.length : Nat) : Int))) ci (fun cb => ?_) (fun cb => ?_)))
      ·
       rw [cb, cond_true] at ac
       refine wp_skip (wp_seq (wp_block (wp_seq (wp_region_from (Rk 0 1 ((tI 41 x_v10) :: (K75m17 x_v10 x37 a d x35)) ci b1 fun h5 ea => ?_)))))
       obtain ⟨x42, ex42, ac⟩ := bnd ac
       obtain ⟨gm, gq, g1⟩ := idx_some ex42
       obtain ⟨s, u, hx, d3, gy, d6⟩ := bb.get (by decide) g1
       obtain ⟨ah, af, ag, rfl, bd⟩ := gy
       have c5 := b1.addPlc (b := s) (o := u + (x_v10 : Int).toNat * 1) (cs := [.func ah af ag]) (fun j c hj => d6 j _ (map_get hj)) rfl (by kernel_rfl) (by kernel_rfl)
       refine R_index 1 (x_v10) rfl rfl (rfl) rfl (by decide) ea (by rfl) (by rfl) (by rfl) d3 (by rfl) gm gq (by kernel_rfl) fun g6 (ec : Kn 99 [(b_c, 0), (b_known, 0), (b_y, 0), (b_look, 0), (f, 0), (g, 0), (l, 0), (m, p + (s_.behind : Int).toNat * 1), (q, 0), (s, u + (x_v10 : Int).toNat * 1)] ((tP 42 9 0) :: (tI 41 x_v10) :: (K75m17 x_v10 x37 a d x35)) g6) => ?_
       refine Rk 2 1 ((tA 43 [.func ah af ag]) :: (tI 41 x_v10) :: (K75m17 x_v10 x37 a d x35)) ec c5 fun h6 ed => ?_
       refine wl fun K hK => ?_
       refine wa [.nilfunc] ed c5 fun z g7 i5 (ee : Kn 99 [(b_c, 0), (b_known, 0), (b_y, 0), (b_look, 0), (f, 0), (g, 0), (l, 0), (m, p + (s_.behind : Int).toNat * 1), (q, 0), (s, u + (x_v10 : Int).toNat * 1), (z, 0)] ((tP 12 10 0) :: (tA 43 [.func ah af ag]) :: (tI 41 x_v10) :: (K75m17 x_v10 x37 a d x35)) g7) c6 => hK _ _ ?_
       refine Rk 4 1 ((tI 11 x_v10) :: (tP 12 10 0) :: (tA 43 [.func ah af ag]) :: (K75m17 x_v10 x37 a d x35)) ee c6 fun g8 ef => ?_
       refine wl fun K hK => ?_
       refine wst 10 0 (.agg [.func ah af ag]) [.func ah af ag] ef c6 fun i6 eg bt => hK _ _ ?_
       have eh : Kn 99 [(b_c, 0), (b_known, 0), (b_y, 0), (b_look, 0), (f, 0), (g, 0), (l, 0), (m, p + (s_.behind : Int).toNat * 1), (q, 0), (s, u + (x_v10 : Int).toNat * 1), (z, 0)] ((tI 11 x_v10) :: (tP 12 10 0) :: (K75m17 x_v10 x37 a d x35)) g8 := eg.kp
       refine wf (wp_seq (wp_region_G (by kernel_rfl) ?_))
       replace bt := bt.drew
       refine wpG_of_D [] [(b_c, 0), (b_known, 0), (b_y, 0), (b_look, 0), (f, 0), (g, 0), (l, 0), (m, p + (s_.behind : Int).toNat * 1), (q, 0), (s, u + (x_v10 : Int).toNat * 1), (z, 0)] [⟨(K75c2 ai c ak), none⟩, ⟨[.map (some bm_known)], none⟩, ⟨(K75c6 ao y ap aj al), none⟩, ⟨(K75c9 b_c b_known b_y b_look), none⟩, ⟨(K75c1 s_), some 129⟩, ⟨K75c7, some 96⟩, ⟨(K75c13 x26), some 96⟩, ⟨[.int .i64 x35], none⟩, ⟨(K75c10 x_v12 x_v11), some 96⟩, ⟨[.func ah af ag], none⟩, ⟨[.func ah af ag], some 135⟩] ?_
       refine Dr [0, 1, 2, 3, 4] (dn 4) ((tI 48 x35) :: (tS 47 aj y.buses.length al) :: (45, .one (.c (.func ah af ag))) :: (tI 11 x_v10) :: (K75m17 x_v10 x37 a d x35)) eh bt fun h7 ei => ?_
       obtain ⟨x49, ex49, ac⟩ := bnd ac
       obtain ⟨gn, gr, g2⟩ := idx_some ex49
       obtain ⟨aa, ab, hy, d4, gz, d7⟩ := ay.get (by decide) g2
       obtain ⟨_, _, rfl, rfl, ⟨_, _, rfl, rfl, rfl⟩⟩ := gz
       have cp := bt.addPlc (b := aa) (o := ab + (x35 : Int).toNat * 3) (cs := (K75c3 x49)) (fun j c hj => d7 j _ (map_get hj)) rfl (by kernel_rfl) (by kernel_rfl)
       refine D_index 5 (x35) (K75c3 x49) (fun _ _ _ _ _ h => h) rfl rfl (rfl) rfl (by decide) (by kernel_rfl) (by kernel_rfl) ei bt.plOk (by rfl) (by rfl) (by rfl) d4 (by rfl) gn gr (by kernel_rfl) fun g9 (ej : Kn 99 [(b_c, 0), (b_known, 0), (b_y, 0), (b_look, 0), (f, 0), (g, 0), (l, 0), (m, p + (s_.behind : Int).toNat * 1), (q, 0), (s, u + (x_v10 : Int).toNat * 1), (z, 0), (aa, ab + (x35 : Int).toNat * 3)] ((tP 49 11 0) :: (tI 48 x35) :: (tS 47 aj y.buses.length al) :: (45, .one (.c (.func ah af ag))) :: (tI 11 x_v10) :: (K75m17 x_v10 x37 a d x35)) g9) => ?_
       refine Dr [6] (dn 6) ((tA 50 (K75c3 x49)) :: (45, .one (.c (.func ah af ag))) :: (tI 11 x_v10) :: (K75m17 x_v10 x37 a d x35)) ej cp fun h8 ek => ?_
       obtain ⟨x51, ex51, ac⟩ := bnd ac
       refine Dl 7 fun K hK => ?_
       refine wp_callV (.func ah af ag) [.agg (K75c3 x49)] _ ek cp rfl rfl (by decide) (by rfl) (by rfl) rfl (bd _ _ (Heap.le_refl _) cp.has x49 _ ((rep_pair rep_int (rep_pair rep_int rep_int)) : rep br x49 _) _ ex51) fun iy bx i7 dy aq b2 => ?_
       replace ax := ax.mono aq
       replace hb_c := hb_c.mono aq
       replace hc_known := hc_known.mono aq
       replace a8 := a8.mono aq
       replace ay := ay.mono aq
       replace hb_y := hb_y.mono aq
       replace hc_look := hc_look.mono aq
       replace bb := bb.mono aq
       replace bd := bd.mono aq
       replace bj := bj.mono aq
       obtain rfl := dy
       refine ⟨.one (.c (.int .i64 x51)), rfl, fun ha (el : Kn 99 [(b_c, 0), (b_known, 0), (b_y, 0), (b_look, 0), (f, 0), (g, 0), (l, 0), (m, p + (s_.behind : Int).toNat * 1), (q, 0), (s, u + (x_v10 : Int).toNat * 1), (z, 0), (aa, ab + (x35 : Int).toNat * 3)] ((tI 51 x51) :: (tA 50 (K75c3 x49)) :: (45, .one (.c (.func ah af ag))) :: (tI 11 x_v10) :: (K75m17 x_v10 x37 a d x35)) ha) => hK _ _ b2.plOk ?_⟩
       refine Dr [8] (dn 8) (K75m20 x51 x_v10 x37 a d x35) el b2 fun h9 em => ?_
       refine wpD_end (by kernel_rfl) (wp_seq (wp_region_from (Rk 0 6 ((tA 57 (K75c5 s_)) :: (K75m20 x51 x_v10 x37 a d x35)) em b2 fun ia en => ?_)))
       refine wl fun K hK => ?_
       refine wa [.int .i64 0, .int .i64 0] en b2 fun ae dq i9 (eo : Kn 99 (K75e15 b_c b_known b_y b_look f g l m p s_ q s u x_v10 z aa ab x35 ae) ((tP 14 12 0) :: (tA 57 (K75c5 s_)) :: (K75m20 x51 x_v10 x37 a d x35)) dq) gg => hK _ _ ?_
       refine wl fun K hK => ?_
       refine wst 12 0 (.agg (K75c5 s_)) (K75c5 s_) eo gg fun ja ep b3 => hK _ _ ?_
       have es : Kn 99 (K75e15 b_c b_known b_y b_look f g l m p s_ q s u x_v10 z aa ab x35 ae) ((tP 14 12 0) :: (K75m20 x51 x_v10 x37 a d x35)) dq := ep.kp
       refine wf (wp_seq (wp_seq (wp_region_from (Rk 0 5 ((tB 62 (decide (s_.behind < c.down))) :: (tP 14 12 0) :: (K75m20 x51 x_v10 x37 a d x35)) es b3 fun ib cj => ?_))))
       refine wf ?_
       obtain ⟨an, bg, ac⟩ := bnd ac
       refine wp_mid' (fun a' w' => ∃ (cr : Array Value) (bz : Heap), a' = ⟨cr, []⟩ ∧ Kn 99 (K75e15 b_c b_known b_y b_look f g l m p s_ q s u x_v10 z aa ab x35 ae) ((tP 14 12 0) :: (K75m20 x51 x_v10 x37 a d x35)) cr ∧ Mem (Fr.put F bm_known (some (.map bh bf))) bz (K75e15 b_c b_known b_y b_look f g l m p s_ q s u x_v10 z aa ab x35 ae) [⟨(K75c2 ai c ak), none⟩, ⟨[.map (some bm_known)], none⟩, ⟨(K75c6 ao y ap aj al), none⟩, ⟨(K75c9 b_c b_known b_y b_look), none⟩, ⟨(K75c1 s_), some 129⟩, ⟨K75c7, some 96⟩, ⟨(K75c13 x26), some 96⟩, ⟨[.int .i64 x35], none⟩, ⟨(K75c10 x_v12 x_v11), some 96⟩, ⟨[.func ah af ag], none⟩, ⟨[.func ah af ag], some 135⟩, ⟨(K75c3 x49), none⟩, ⟨(K75c4 s_ an), some 129⟩] [] w' ∧ Heap.le bx bz) ?_ ?_
       ·
        refine wC (decide (s_.behind < c.down)) cj (fun cc => ?_) (fun cc => ?_)
        ·
         rw [cc, cond_true] at bg
         refine wp_region_from (Rk 0 3 ((tI 65 x51) :: (tI 64 s_.last) :: (tP 14 12 0) :: (K75m20 x51 x_v10 x37 a d x35)) cj b3 fun ic et => ?_)
         refine wl fun K hK => ?_
         refine wS 3 1 [.int .i64 s_.last, .int .i64 x51] et b3 fun bm hb ht (eu : Kn 99 (K75e15 b_c b_known b_y b_look f g l m p s_ q s u x_v10 z aa ab x35 ae) ((tS 66 bm 2 2) :: (tI 65 x51) :: (tI 64 s_.last) :: (tP 14 12 0) :: (K75m20 x51 x_v10 x37 a d x35)) hb) c7 => ?_
         have ch : Cells bx ([s_.last, x51] : List Int) ([.int .i64 s_.last, .int .i64 x51] : List Value) := ⟨_, _, rfl, (rep_int : rep bx (s_.last : Int) _), ⟨_, _, rfl, (rep_int : rep bx (x51 : Int) _), rfl⟩⟩
         refine hK _ _ ?_
         obtain ⟨cz, c4, gx, b4⟩ := c7.settle (i := 0) rfl
         replace ch := ch.mono c4
         replace b4 : Mem (Fr.put F bm_known (some (.map bh bf))) cz (K75e15 b_c b_known b_y b_look f g l m p s_ q s u x_v10 z aa ab x35 ae) [⟨(K75c2 ai c ak), none⟩, ⟨[.map (some bm_known)], none⟩, ⟨(K75c6 ao y ap aj al), none⟩, ⟨(K75c9 b_c b_known b_y b_look), none⟩, ⟨(K75c1 s_), some 129⟩, ⟨K75c7, some 96⟩, ⟨(K75c13 x26), some 96⟩, ⟨[.int .i64 x35], none⟩, ⟨(K75c10 x_v12 x_v11), some 96⟩, ⟨[.func ah af ag], none⟩, ⟨[.func ah af ag], some 135⟩, ⟨(K75c3 x49), none⟩, ⟨(K75c5 s_), some 129⟩] [⟨bm, 2, 2, 3, 1, ([.int .i64 s_.last, .int .i64 x51] : List Value), (([.int .i64 s_.last, .int .i64 x51] : List Value) : List Value).length⟩] ht := b4
         have gv : RepS cz bm 2 ([s_.last, x51] : List Int) := ⟨_, ch, gx, c7.rowCap (i := 0) rfl⟩
         obtain ⟨x67, ex67, bg⟩ := bnd bg
         refine wl fun K hK => ?_
         refine wc [.c (.slice bm 2 2)] eu b4 (lane_latest_ok bl b4.has ([s_.last, x51] : List Int) gv ex67) fun iz h0 jb dz gc c8 => ?_
         obtain rfl := dz
         refine ⟨.one (.c (.int .i64 x67)), rfl, fun hc (ew : Kn 99 (K75e15 b_c b_known b_y b_look f g l m p s_ q s u x_v10 z aa ab x35 ae) ((tI 67 x67) :: (tS 66 bm 2 2) :: (tI 65 x51) :: (tI 64 s_.last) :: (tP 14 12 0) :: (K75m20 x51 x_v10 x37 a d x35)) hc) => hK _ _ ?_⟩
         refine Rk 5 1 ((tP 68 12 1) :: (tI 67 x67) :: (tP 14 12 0) :: (K75m20 x51 x_v10 x37 a d x35)) ew c8 fun hd ex => ?_
         refine wl fun K hK => ?_
         refine wst 12 1 (.c (.int .i64 x67)) [.int .i64 (IntKind.i64.wrap (s_.behind + 1)), .int .i64 x67] ex c8 fun jc ey gh => hK _ _ ?_
         have ez : Kn 99 (K75e15 b_c b_known b_y b_look f g l m p s_ q s u x_v10 z aa ab x35 ae) ((tP 14 12 0) :: (K75m20 x51 x_v10 x37 a d x35)) hd := ey.kp
         refine wf ?_
         obtain rfl := Option.some.inj bg
         exact Exists.intro _ ⟨_, rfl, ez.kp, (gh.cutRw 0), (Heap.le_trans c4 gc)⟩
        ·
         rw [cc, cond_false] at bg
         refine wp_skip ?_
         obtain rfl := Option.some.inj bg
         exact Exists.intro _ ⟨_, rfl, cj.kp, b3, (Heap.le_refl _)⟩
       ·
        rintro _ jd ⟨cr, bz, rfl, e0, c9, ar⟩
        replace hb_c := hb_c.mono ar
        replace hc_known := hc_known.mono ar
        replace hb_y := hb_y.mono ar
        replace hc_look := hc_look.mono ar
        replace bj := bj.mono ar
        refine wp_seq (wp_region_from (Rk 0 2 (K75m19 s_ an b_c b_known b_y b_look x51 x_v10 x37 a d x35) e0 c9 fun ig e1 => ?_))
        obtain ⟨x71, ex71, ac⟩ := bnd ac
        obtain ⟨hw, d2, gb, gw⟩ := c9.lend1 bm_known (Fr.put_X _ _ _) [] [] (by kernel_rfl) (by kernel_rfl) (by kernel_rfl) (by kernel_rfl)
        refine wl fun K hK => ?_
        refine wp_callVM (.func (.func 75) #[] #[.pointer (some ⟨b_c, 0, none⟩), .pointer (some ⟨b_known, 0, none⟩), .pointer (some ⟨b_y, 0, none⟩), .pointer (some ⟨b_look, 0, none⟩)]) [.agg (K75c4 s_ an)] _ e1 rfl rfl (by decide) (by rfl) (by rfl) rfl ⟨75, _, _, rfl, fun _ _ => by kernel_rfl, ih bl (by omega) _ _ _ _ _ _ _ (Stand.mk (IntKind.i64.wrap (s_.behind + 1)) an) _ ((rep_pair rep_int rep_int) : rep bz (Stand.mk (IntKind.i64.wrap (s_.behind + 1)) an) _) c hb_c x_v13 _ _ _ hc_known (d2 _ _ (Fr.put_X _ _ _)) bj y hb_y hc_look gb _ ex71⟩ fun i0 hu d1 => ?_
        obtain ⟨c0, bq, bo, au, ⟨_, rfl, ⟨_, _, rfl, rfl, ⟨_, _, rfl, rfl, ⟨_, _, rfl, rfl, ⟨_, _, rfl, rfl, ⟨_, _, rfl, rfl, ⟨_, _, rfl, rfl, ⟨_, _, rfl, rfl, ⟨_, _, rfl, rfl, rfl⟩⟩⟩⟩⟩⟩⟩⟩⟩, bi, gi⟩ := d1
        have b5 := gw _ _ _ _ [] au rfl (Nat.le_refl _) (by kernel_rfl) gi
        rw [Fr.put_put] at b5
        replace ax := ax.mono (Heap.le_trans ar au)
        replace hb_c := hb_c.mono au
        replace hc_known := hc_known.mono au
        replace a8 := a8.mono (Heap.le_trans ar au)
        replace ay := ay.mono (Heap.le_trans ar au)
        replace hb_y := hb_y.mono au
        replace hc_look := hc_look.mono au
        replace bb := bb.mono (Heap.le_trans ar au)
        replace bd := bd.mono (Heap.le_trans ar au)
        replace b5 : Mem (Fr.put F bm_known (some (.map bq bo))) c0 [(b_c, 0), (b_known, 0), (b_y, 0), (b_look, 0), (f, 0), (g, 0), (l, 0), (m, p + (s_.behind : Int).toNat * 1), (q, 0), (s, u + (x_v10 : Int).toNat * 1), (z, 0), (aa, ab + (x35 : Int).toNat * 3), (ae, 0)] [⟨[.slice ai c.buses.length ak, .int .i64 c.down], none⟩, ⟨[.map (some bm_known)], none⟩, ⟨[.slice ao y.room.length ap, .slice aj y.buses.length al, .int .i64 y.broken], none⟩, ⟨[.func (.func 75) #[] #[.pointer (some ⟨b_c, 0, none⟩), .pointer (some ⟨b_known, 0, none⟩), .pointer (some ⟨b_y, 0, none⟩), .pointer (some ⟨b_look, 0, none⟩)]], none⟩, ⟨[.int .i64 s_.behind, .int .i64 s_.last], some 129⟩, ⟨[.int .i64 0, .int .i64 0, .int .i64 0, .int .i64 0, .int .i64 0, .int .i64 0, .int .i64 0, .int .i64 0, .int .i64 0], some 96⟩, ⟨[.int .i64 x26.1.many, .int .i64 x26.1.tm.a0, .int .i64 x26.1.tm.a1, .int .i64 x26.1.tm.a2, .int .i64 x26.1.tm.a3, .int .i64 x26.1.tm.a4, .int .i64 x26.1.tm.a5, .int .i64 x26.1.tm.a6, .int .i64 x26.1.tm.a7], some 96⟩, ⟨[.int .i64 x35], none⟩, ⟨[.int .i64 x_v12, .int .i64 x_v11.a0, .int .i64 x_v11.a1, .int .i64 x_v11.a2, .int .i64 x_v11.a3, .int .i64 x_v11.a4, .int .i64 x_v11.a5, .int .i64 x_v11.a6, .int .i64 x_v11.a7], some 96⟩, ⟨[.func ah af ag], none⟩, ⟨[.func ah af ag], some 135⟩, ⟨[.int .i64 x49.lo, .int .i64 x49.hi, .int .i64 x49.turn], none⟩, ⟨[.int .i64 (IntKind.i64.wrap (s_.behind + 1)), .int .i64 an], some 129⟩] [] hu := b5
        refine ⟨.one (.agg (K75c14 x71)), rfl, fun he (e2 : Kn 99 (K75e15 b_c b_known b_y b_look f g l m p s_ q s u x_v10 z aa ab x35 ae) ((tA 71 (K75c14 x71)) :: (K75m19 s_ an b_c b_known b_y b_look x51 x_v10 x37 a d x35)) he) => hK _ _ ?_⟩
        refine wl fun K hK => ?_
        refine wa K75c7 e2 b5 fun am dr je (e3 : Kn 99 (K75e16 b_c b_known b_y b_look f g l m p s_ q s u x_v10 z aa ab x35 ae am) ((tP 15 13 0) :: (tA 71 (K75c14 x71)) :: (K75m19 s_ an b_c b_known b_y b_look x51 x_v10 x37 a d x35)) dr) gj => hK _ _ ?_
        refine wl fun K hK => ?_
        refine wst 13 0 (.agg (K75c14 x71)) (K75c14 x71) e3 gj fun jf e4 b6 => hK _ _ ?_
        have e5 : Kn 99 (K75e16 b_c b_known b_y b_look f g l m p s_ q s u x_v10 z aa ab x35 ae am) ((tP 15 13 0) :: (K75m20 x51 x_v10 x37 a d x35)) dr := e4.kp
        refine wf (wp_seq (wp_seq (wp_region_from (Rk 0 4 ((tB 75 (decide (x51 ≤ s_.last))) :: (tP 15 13 0) :: (K75m20 x51 x_v10 x37 a d x35)) e5 b6 fun ii cl => ?_))))
        refine wf ?_
        obtain ⟨az, bv, ac⟩ := bnd ac
        refine wp_mid' (fun a' w' => ∃ (ct : Array Value) (b0 : Heap), a' = ⟨ct, []⟩ ∧ Kn 99 (K75e16 b_c b_known b_y b_look f g l m p s_ q s u x_v10 z aa ab x35 ae am) ((tP 15 13 0) :: (K75m20 x51 x_v10 x37 a d x35)) ct ∧ Mem (Fr.put F bm_known (some (.map bq bo))) b0 (K75e16 b_c b_known b_y b_look f g l m p s_ q s u x_v10 z aa ab x35 ae am) [⟨(K75c2 ai c ak), none⟩, ⟨[.map (some bm_known)], none⟩, ⟨(K75c6 ao y ap aj al), none⟩, ⟨(K75c9 b_c b_known b_y b_look), none⟩, ⟨(K75c1 s_), some 129⟩, ⟨K75c7, some 96⟩, ⟨(K75c13 x26), some 96⟩, ⟨[.int .i64 x35], none⟩, ⟨(K75c10 x_v12 x_v11), some 96⟩, ⟨[.func ah af ag], none⟩, ⟨[.func ah af ag], some 135⟩, ⟨(K75c3 x49), none⟩, ⟨(K75c4 s_ an), some 129⟩, ⟨(K75c12 az x71), some 96⟩] [] w' ∧ Heap.le c0 b0) ?_ ?_
        ·
         refine wC (decide (x51 ≤ s_.last)) cl (fun ce => ?_) (fun ce => ?_)
         ·
          rw [ce, cond_true] at bv
          refine wp_region_from (Rk 0 4 ((tP 79 13 0) :: (tI 78 (IntKind.i64.wrap (x71.1.many + 1))) :: (tP 15 13 0) :: (K75m20 x51 x_v10 x37 a d x35)) cl b6 fun hg e7 => ?_)
          refine wl fun K hK => ?_
          refine wst 13 0 (.c (.int .i64 (IntKind.i64.wrap (x71.1.many + 1)))) [.int .i64 (IntKind.i64.wrap (x71.1.many + 1)), .int .i64 x71.1.tm.a0, .int .i64 x71.1.tm.a1, .int .i64 x71.1.tm.a2, .int .i64 x71.1.tm.a3, .int .i64 x71.1.tm.a4, .int .i64 x71.1.tm.a5, .int .i64 x71.1.tm.a6, .int .i64 x71.1.tm.a7] e7 b6 fun jg e8 gk => hK _ _ ?_
          have e9 : Kn 99 (K75e16 b_c b_known b_y b_look f g l m p s_ q s u x_v10 z aa ab x35 ae am) ((tP 15 13 0) :: (K75m20 x51 x_v10 x37 a d x35)) hg := e8.kp
          refine wf ?_
          obtain rfl := Option.some.inj bv
          exact Exists.intro _ ⟨_, rfl, e9.kp, gk, (Heap.le_refl _)⟩
         ·
          rw [ce, cond_false] at bv
          refine wp_skip ?_
          obtain rfl := Option.some.inj bv
          exact Exists.intro _ ⟨_, rfl, cl.kp, b6, (Heap.le_refl _)⟩
        ·
         rintro _ jh ⟨ct, b0, rfl, fa, bu, av⟩
         replace ax := ax.mono av
         replace hb_c := hb_c.mono av
         replace hc_known := hc_known.mono av
         replace a8 := a8.mono av
         replace ay := ay.mono av
         replace hb_y := hb_y.mono av
         replace hc_look := hc_look.mono av
         replace bb := bb.mono av
         replace bd := bd.mono av
         replace bi := bi.mono av
         refine wp_seq ?_
         obtain ⟨dm, bw, ac⟩ := bnd ac
         refine wp_mid' (fun a' w' => ∃ (cu : Array Value) (ca : Heap), a' = ⟨cu, []⟩ ∧ Kn 99 (K75e16 b_c b_known b_y b_look f g l m p s_ q s u x_v10 z aa ab x35 ae am) [(tP 15 13 0), (tI 13 x51), (tI 39 x_v10), (tI 38 ((x37.length : Nat) : Int)), (tS 37 a x37.length d), (tP 10 8 0), (tI 9 x35), (tP 6 5 0), (tP 5 4 0), (tP 1 0 0), (tP 2 1 0), (tP 3 2 0), (tP 4 3 0), (tB 88 dm)] cu ∧ Mem (Fr.put F bm_known (some (.map bq bo))) ca (K75e16 b_c b_known b_y b_look f g l m p s_ q s u x_v10 z aa ab x35 ae am) [⟨(K75c2 ai c ak), none⟩, ⟨[.map (some bm_known)], none⟩, ⟨(K75c6 ao y ap aj al), none⟩, ⟨(K75c9 b_c b_known b_y b_look), none⟩, ⟨(K75c1 s_), some 129⟩, ⟨K75c7, some 96⟩, ⟨(K75c13 x26), some 96⟩, ⟨[.int .i64 x35], none⟩, ⟨(K75c10 x_v12 x_v11), some 96⟩, ⟨[.func ah af ag], none⟩, ⟨[.func ah af ag], some 135⟩, ⟨(K75c3 x49), none⟩, ⟨(K75c4 s_ an), some 129⟩, ⟨(K75c12 az x71), some 96⟩] [] w' ∧ Heap.le b0 ca) ?_ ?_
         ·
          refine wp_region_from (Rk 0 3 ((tB 82 (x_v10 == 0)) :: (tP 15 13 0) :: (tI 13 x51) :: (K75m17 x_v10 x37 a d x35)) fa bu fun ds c2 => ?_)
          rcases Bool.eq_false_or_eq_true ((x_v10 == 0)) with bs | bs
          ·
           rw [bs, cond_true] at bw
           have fb : Kn 99 (K75e16 b_c b_known b_y b_look f g l m p s_ q s u x_v10 z aa ab x35 ae am) ((tB 82 true) :: (tP 15 13 0) :: (tI 13 x51) :: (K75m17 x_v10 x37 a d x35)) ds := (c2.setB 82 true (by rfl) bs).kp
           refine Rk 3 6 ((tB 88 true) :: (tP 15 13 0) :: (tI 13 x51) :: (K75m17 x_v10 x37 a d x35)) fb bu fun ij fd => ?_
           refine wf ?_
           obtain rfl := Option.some.inj bw
           exact Exists.intro _ ⟨_, rfl, fd.kp, bu, (Heap.le_refl _)⟩
          ·
           rw [bs, cond_false] at bw
           have fe : Kn 99 (K75e16 b_c b_known b_y b_look f g l m p s_ q s u x_v10 z aa ab x35 ae am) ((tB 82 false) :: (tP 15 13 0) :: (tI 13 x51) :: (K75m17 x_v10 x37 a d x35)) ds := (c2.setB 82 false (by rfl) bs).kp
           refine Rk 3 6 ((tB 88 (decide (az > x_v12))) :: (tP 15 13 0) :: (tI 13 x51) :: (K75m17 x_v10 x37 a d x35)) fe bu fun ik ff => ?_
           refine wf ?_
           obtain rfl := Option.some.inj bw
           exact Exists.intro _ ⟨_, rfl, ff.kp, bu, (Heap.le_refl _)⟩
         ·
          rintro _ jj ⟨cu, ca, rfl, cm, b7, co⟩
          replace bi := bi.mono co
          refine wC (dm) cm (fun cf => ?_) (fun cf => ?_)
          ·
           rw [cond_t cf] at ac
           refine wp_seq (wp_region_from (Rk 0 1 ((tA 89 (K75c12 az x71)) :: (tI 13 x51) :: (K75m17 x_v10 x37 a d x35)) cm b7 fun hh fg => ?_))
           refine wl fun K hK => ?_
           refine wst 8 0 (.agg (K75c12 az x71)) (K75c12 az x71) fg b7 fun jk fh db => hK _ _ ?_
           have fi : Kn 99 (K75e16 b_c b_known b_y b_look f g l m p s_ q s u x_v10 z aa ab x35 ae am) ((tI 13 x51) :: (K75m17 x_v10 x37 a d x35)) hh := fh.kp
           refine wf (wp_region_from (Rk 0 3 ((tP 92 8 1) :: (tI 91 x51) :: (tI 90 x35) :: (K75m17 x_v10 x37 a d x35)) fi db fun il c3 => ?_))
           obtain ⟨x93, ex93, ac⟩ := bnd ac
           obtain ⟨go, gs⟩ := rng_some ex93
           refine R_one 3 (.one (.c (.ptr 8 (1 + (x35 : Int).toNat * 1)))) rfl (rfl) rfl (run_indexA (E := 3) c3 rfl (by kernel_rfl) (by kernel_rfl) (by rfl) (by rfl) go gs) (c3.put (by decide) _) fun dt (fk : Kn 99 (K75e16 b_c b_known b_y b_look f g l m p s_ q s u x_v10 z aa ab x35 ae am) ((tP 93 8 (1 + (x35 : Int).toNat * 1)) :: (tP 92 8 1) :: (tI 91 x51) :: (tI 90 x35) :: (K75m17 x_v10 x37 a d x35)) dt) => ?_
           obtain ⟨a9, dv, ac⟩ := bnd ac
           obtain ⟨h2, h3, g3⟩ := Places.setI_some dv
           refine wl fun K hK => ?_
           refine wp_store 8 (1 + (x35 : Int).toNat * 1) (.c (.int .i64 x51)) [.int .i64 az, .int .i64 a9.a0, .int .i64 a9.a1, .int .i64 a9.a2, .int .i64 a9.a3, .int .i64 a9.a4, .int .i64 a9.a5, .int .i64 a9.a6, .int .i64 a9.a7] fk db rfl rfl (by rfl) (by rfl) (by rfl) (by kernel_rfl) (by refine decide_eq_true ?_; show (1 + (x35 : Int).toNat * 1) + 1 ≤ 9; omega) (arr_set (fun (y : Int) => ([.int .i64 y] : List SC)) 1 (fun _ => rfl) [.int .i64 az] [] x71.1.tm.toL a9.toL (x35 : Int).toNat x51 g3 (show (x35 : Int).toNat < 8 by omega) rfl rfl rfl) fun jl fl dc => hK _ _ ?_
           have fm : Kn 99 (K75e16 b_c b_known b_y b_look f g l m p s_ q s u x_v10 z aa ab x35 ae am) (K75m17 x_v10 x37 a d x35) dt := fl.kp
           refine wf (wp_region_from (Rk 0 2 ((tI 39 (IntKind.i64.wrap (x_v10 + 1))) :: (tI 38 ((x37.length : Nat) : Int)) :: (tS 37 a x37.length d) :: (tP 10 8 0) :: (tI 9 x35) :: K75m18) fm dc fun io fn => ?_))
           refine wf ?_
           exact Exists.intro bl ⟨Nat.lt_succ_self _, Exists.intro (IntKind.i64.wrap (x_v10 + 1)) ⟨a9, az, x71.2, bq, bo, _, _, rfl, ((fn.keep [39, 38, 37, 10, 9, 6, 5, 1, 2, 3, 4] (by rfl)).cut 9 (by kernel_rfl)), (dc.cutPl 9 (by kernel_rfl)), (Heap.le_trans aw (Heap.le_trans aq (Heap.le_trans ar (Heap.le_trans au (Heap.le_trans av co))))), bi, (by omega), ac⟩⟩
          ·
           rw [cond_f cf] at ac
           refine wp_skip (wp_region_from (Rk 0 2 ((tI 39 (IntKind.i64.wrap (x_v10 + 1))) :: (tI 38 ((x37.length : Nat) : Int)) :: (tS 37 a x37.length d) :: (tP 10 8 0) :: (tI 9 x35) :: K75m18) cm b7 fun ip fo => ?_))
           refine wf ?_
           exact Exists.intro bl ⟨Nat.lt_succ_self _, Exists.intro (IntKind.i64.wrap (x_v10 + 1)) ⟨x_v11, x_v12, x71.2, bq, bo, _, _, rfl, ((fo.keep [39, 38, 37, 10, 9, 6, 5, 1, 2, 3, 4] (by rfl)).cut 9 (by kernel_rfl)), (b7.cutPl 9 (by kernel_rfl)), (Heap.le_trans aw (Heap.le_trans aq (Heap.le_trans ar (Heap.le_trans au (Heap.le_trans av co))))), bi, (by omega), ac⟩⟩
      ·
       rw [cb, cond_false] at ac
       refine wp_exit ?_
       obtain rfl := Option.some.inj ac
       exact Exists.intro bh ⟨bf, _, _, rfl, ci.kp, b1, aw, bj⟩
    ·
     rintro _ jm ⟨b9, b8, cv, bc, rfl, fp, dd, gd, dx⟩
     refine wp_seq (wp_region_from (Rk 0 3 [(tA 97 (K75c11 ad)), (tA 96 (K75c1 s_)), (95, .one (.c (.map (some bm_known)))), (tP 10 8 0), (tP 6 5 0)] fp dd fun du fq => ?_))
     refine wl fun K hK => ?_
     refine wp_updateP (KT := 129) (E := 96) (k := (s_ : Stand)) (x := ((Found.mk ad.2.1 ad.1) : Found)) (.agg (K75c1 s_)) (.agg (K75c11 ad)) fq dd rfl rfl (by rfl) (by rfl) (by rfl) (by kernel_rfl) Stand.KL dx rfl ⟨_, rfl, ((rep_pair rep_int (rep_pair rep_int (rep_pair rep_int (rep_pair rep_int (rep_pair rep_int (rep_pair rep_int (rep_pair rep_int (rep_pair rep_int rep_int)))))))) : rep bc ((Found.mk ad.2.1 ad.1) : Found) _)⟩ fun cy cw hv dw (fs : Kn 99 (K75e8 b_c b_known b_y b_look f g l m p s_ q) [(tA 97 (K75c11 ad)), (tA 96 (K75c1 s_)), (95, .one (.c (.map (some bm_known)))), (tP 10 8 0), (tP 6 5 0)] du) (de : Mem (Fr.put F bm_known (some (.map cy cw))) bc (K75e8 b_c b_known b_y b_look f g l m p s_ q) [⟨(K75c2 ai c ak), none⟩, ⟨[.map (some bm_known)], none⟩, ⟨(K75c6 ao y ap aj al), none⟩, ⟨(K75c9 b_c b_known b_y b_look), none⟩, ⟨(K75c1 s_), some 129⟩, ⟨K75c7, some 96⟩, ⟨(K75c13 x26), some 96⟩, ⟨[.int .i64 x35], none⟩, ⟨(K75c11 ad), some 96⟩] [] hv) => hK _ _ ?_
     have ft : Kn 99 (K75e8 b_c b_known b_y b_look f g l m p s_ q) [(tP 10 8 0), (tP 6 5 0)] du := fs.kp
     refine wf (wp_seq (wp_region_from (Rk 0 1 [(tA 98 (K75c11 ad)), (tP 6 5 0)] ft de fun hl fu => ?_)))
     refine wl fun K hK => ?_
     refine wst 5 0 (.agg (K75c11 ad)) (K75c11 ad) fu de fun jn fv df => hK _ _ ?_
     have fw : Kn 99 (K75e8 b_c b_known b_y b_look f g l m p s_ q) [(tP 6 5 0)] hl := fv.kp
     refine wf (wp_ret ?_)
     obtain rfl := Option.some.inj H
     exact retM_of (.one (.agg (K75c11 ad))) fw df (by kernel_rfl) ⟨bc, cy, cw, (Heap.le_trans ba gd), ⟨_, rfl, ((rep_pair rep_int (rep_pair rep_int (rep_pair rep_int (rep_pair rep_int (rep_pair rep_int (rep_pair rep_int (rep_pair rep_int (rep_pair rep_int rep_int)))))))) : rep bc ((Found.mk ad.2.1 ad.1) : Found) _)⟩, dw, ((df.cutRw 0).cutPl 0 (by kernel_rfl))⟩
theorem lane_Yard_worst_1_ok (n : Nat) {F : Fr} {h : Heap} {w : World} {b_c b_known b_y b_look : Nat} (s_ : Stand) {cs_s_ : List Value} (hx_s_ : rep h s_ cs_s_) (c : Column) (hb_c : BoxS h b_c c) (known : List (Stand × Found)) {bm_known : Nat} {es_known : Array MapEntry} {cl_known : Nat} (hc_known : CellsAt h b_known [.map (some bm_known)]) (hX_known : F.X bm_known = some (.map es_known cl_known)) (hE_known : Ents h es_known.toList cl_known known) (y : Yard) (hb_y : BoxS h b_y y) (hc_look : CellsAt h b_look [.func (.func 75) #[] #[.pointer (some ⟨b_c, 0, none⟩), .pointer (some ⟨b_known, 0, none⟩), .pointer (some ⟨b_y, 0, none⟩), .pointer (some ⟨b_look, 0, none⟩)]]) (hm : Mem F h [] [] [] w) {r : Found × (List (Stand × Found))} (H : lane_Yard_worst_1 n s_ c known y = some r) :
  Calls Try.prog 75 #[.agg cs_s_.toArray, .pointer (some ⟨b_c, 0, none⟩), .pointer (some ⟨b_known, 0, none⟩), .pointer (some ⟨b_y, 0, none⟩), .pointer (some ⟨b_look, 0, none⟩)] w (RetM fun v w' => ∃ (h' : Heap) (bp : Array MapEntry) (bn : Nat), Heap.le h h' ∧ (∃ cs, v = .agg cs.toArray ∧ rep h' r.1 cs) ∧ Ents h' bp.toList bn r.2 ∧ Mem (Fr.put F bm_known (some (.map bp bn))) h' [] [] [] w') := lane_Yard_worst_1_rec n F h w b_c b_known b_y b_look s_ cs_s_ hx_s_ c hb_c known bm_known es_known cl_known hc_known hX_known hE_known y hb_y hc_look hm r H
abbrev K51c1 (m : Option Addr) (c : Column) (q : Nat) : List SC := [.slice m c.buses.length q, .int .i64 c.down]
abbrev K51e2 (a b g d f : Nat) : Env := [(a, 0), (b, 0), (g, 0), (d, 0), (f, 0)]
abbrev K51c3 (k : Option Addr) (y : Yard) (o : Nat) (l : Option Addr) (p : Nat) : List SC := [.slice k y.room.length o, .slice l y.buses.length p, .int .i64 y.broken]
abbrev K51c4 : List SC := [.int .i64 0, .int .i64 0, .int .i64 0, .int .i64 0, .int .i64 0, .int .i64 0, .int .i64 0, .int .i64 0, .int .i64 0]
abbrev K51c5 (x11 : (Found × (List (Stand × Found)))) : List SC := [.int .i64 x11.1.many, .int .i64 x11.1.tm.a0, .int .i64 x11.1.tm.a1, .int .i64 x11.1.tm.a2, .int .i64 x11.1.tm.a3, .int .i64 x11.1.tm.a4, .int .i64 x11.1.tm.a5, .int .i64 x11.1.tm.a6, .int .i64 x11.1.tm.a7]
set_option maxRecDepth 100000 in
set_option maxHeartbeats 4000000 in
theorem lane_Yard_worst_ok (n : Nat) {h : Heap} {w : World} (hh : Has h w) (y : Yard) {cs_y : List Value} (hx_y : rep h y cs_y) (c : Column) {cs_c : List Value} (hx_c : rep h c cs_c) {r : Found} (H : lane_Yard_worst n y c = some r) :
  Calls Try.prog 51 #[.agg cs_y.toArray, .agg cs_c.toArray] w (Ret (fun h v => ∃ cs, v = .agg cs.toArray ∧ rep h r cs) h w) := by
 obtain ⟨_, _, rfl, ⟨k, o, rfl, am⟩, ⟨_, _, rfl, ⟨l, p, rfl, an⟩, rfl⟩⟩ := hx_y
 obtain ⟨_, _, rfl, ⟨m, q, rfl, ao⟩, rfl⟩ := hx_c
 refine enter 12 [.agg (K51c3 k y o l p), .agg (K51c1 m c q)] Try.func51 rfl rfl rfl rfl fun t hk => ?_
 have hm := Mem.begin h w hh
 unfold lane_Yard_worst at H
 refine wp_seq (wp_region_from (wl fun K hK => ?_))
 refine wb (.agg (K51c3 k y o l p)) hk hm fun a b9 cn (bg : Kn 12 [(a, 0)] [(tP 2 0 0), (tA 0 (K51c3 k y o l p)), (tA 1 (K51c1 m c q))] b9) bz => hK _ _ ?_
 refine wl fun K hK => ?_
 refine wb (.agg (K51c1 m c q)) bg bz fun b ca co (bh : Kn 12 [(a, 0), (b, 0)] [(tP 3 1 0), (tP 2 0 0), (tA 0 (K51c3 k y o l p)), (tA 1 (K51c1 m c q))] ca) b0 => hK _ _ ?_
 refine wl fun K hK => ?_
 refine wa K51c4 bh b0 fun g ax cd (bi : Kn 12 [(a, 0), (b, 0), (g, 0)] [(tP 4 2 0), (tP 3 1 0), (tP 2 0 0), (tA 0 (K51c3 k y o l p)), (tA 1 (K51c1 m c q))] ax) b1 => hK _ _ ?_
 have bj : Kn 12 [(a, 0), (b, 0), (g, 0)] [(tP 4 2 0), (tP 3 1 0), (tP 2 0 0)] ax := bi.kp
 refine wf (wp_seq (wp_region_from (wl fun K hK => ?_)))
 refine wp_makeMap bj b1 rfl rfl (by decide) fun j cb ci (bk : Kn 12 [(a, 0), (b, 0), (g, 0)] [(7, .one (.c (.map (some j)))), (tP 4 2 0), (tP 3 1 0), (tP 2 0 0)] cb) (b2 : Mem (Fr.put ⟨w, h, noX⟩ j (some (.map #[] 0))) h [(a, 0), (b, 0), (g, 0)] [⟨(K51c3 k y o l p), some 33⟩, ⟨(K51c1 m c q), some 90⟩, ⟨K51c4, some 96⟩] [] (World.alloc cd (.map #[] 0))) => ?_
 have ad : Ents h (#[] : Array MapEntry).toList 0 ([] : List (Stand × Found)) := Ents.nil
 refine hK _ _ ?_
 refine wl fun K hK => ?_
 refine wa [.map none] bk b2 fun d ay cp (bl : Kn 12 [(a, 0), (b, 0), (g, 0), (d, 0)] [(tP 5 3 0), (7, .one (.c (.map (some j)))), (tP 4 2 0), (tP 3 1 0), (tP 2 0 0)] ay) b3 => hK _ _ ?_
 refine wl fun K hK => ?_
 refine wst 3 0 (.c (.map (some j))) [.map (some j)] bl b3 fun cq bm b4 => hK _ _ ?_
 have bn : Kn 12 [(a, 0), (b, 0), (g, 0), (d, 0)] [(tP 5 3 0), (tP 4 2 0), (tP 3 1 0), (tP 2 0 0)] ay := bm.kp
 refine wf (wp_seq (wp_region_from (wl fun K hK => ?_)))
 refine wa [.nilfunc] bn b4 fun f cc ap (bo : Kn 12 (K51e2 a b g d f) [(tP 6 4 0), (tP 5 3 0), (tP 4 2 0), (tP 3 1 0), (tP 2 0 0)] cc) b5 => hK _ _ ?_
 refine wf (wp_seq (wp_region_from ?_))
 obtain ⟨u, z, au, ai⟩ := b5.settlePlc (i := 1) rfl
 replace ao := ao.mono z
 replace ai : Mem (Fr.put ⟨w, h, noX⟩ j (some (.map #[] 0))) u (K51e2 a b g d f) [⟨(K51c3 k y o l p), some 33⟩, ⟨(K51c1 m c q), none⟩, ⟨K51c4, some 96⟩, ⟨[.map (some j)], some 126⟩, ⟨[.nilfunc], some 127⟩] [] ap := ai
 have af : BoxS u b (c : Column) := BoxS.of (e := (K51e2 a b g d f)) (cs := (K51c1 m c q)) ((rep_pair (rep_slice ao) rep_int) : rep u (c : Column) _) rfl au
 have cj : CellsAt u b [.slice m c.buses.length q, .int .i64 c.down] := CellsAt.of (e := [(a, 0), (b, 0), (g, 0), (d, 0), (f, 0)]) (cs := [.slice m c.buses.length q, .int .i64 c.down]) rfl au
 obtain ⟨aq, aa, be, aj⟩ := ai.settlePlc (i := 3) rfl
 replace aj : Mem (Fr.put ⟨w, h, noX⟩ j (some (.map #[] 0))) aq (K51e2 a b g d f) [⟨(K51c3 k y o l p), some 33⟩, ⟨(K51c1 m c q), none⟩, ⟨K51c4, some 96⟩, ⟨[.map (some j)], none⟩, ⟨[.nilfunc], some 127⟩] [] ap := aj
 have ah : CellsAt aq d [.map (some j)] := CellsAt.of (e := [(a, 0), (b, 0), (g, 0), (d, 0), (f, 0)]) (cs := [.map (some j)]) rfl be
 obtain ⟨x, s, av, ak⟩ := aj.settlePlc (i := 0) rfl
 replace am := am.mono (Heap.le_trans (Heap.le_trans z aa) s)
 replace an := an.mono (Heap.le_trans (Heap.le_trans z aa) s)
 replace ak : Mem (Fr.put ⟨w, h, noX⟩ j (some (.map #[] 0))) x (K51e2 a b g d f) [⟨(K51c3 k y o l p), none⟩, ⟨(K51c1 m c q), none⟩, ⟨K51c4, some 96⟩, ⟨[.map (some j)], none⟩, ⟨[.nilfunc], some 127⟩] [] ap := ak
 have ag : BoxS x a (y : Yard) := BoxS.of (e := (K51e2 a b g d f)) (cs := (K51c3 k y o l p)) ((rep_pair (rep_slice am) (rep_pair (rep_slice an) rep_int)) : rep x (y : Yard) _) rfl av
 have ck : CellsAt x a [.slice k y.room.length o, .slice l y.buses.length p, .int .i64 y.broken] := CellsAt.of (e := [(a, 0), (b, 0), (g, 0), (d, 0), (f, 0)]) (cs := [.slice k y.room.length o, .slice l y.buses.length p, .int .i64 y.broken]) rfl av
 refine R_func 0 #[] #[.pointer (some ⟨b, 0, none⟩), .pointer (some ⟨d, 0, none⟩), .pointer (some ⟨a, 0, none⟩), .pointer (some ⟨f, 0, none⟩)] bo rfl rfl (rfl) rfl (by decide) (by rfl) (by rfl) (by rfl) (by rfl) fun az (bp : Kn 12 (K51e2 a b g d f) [(8, .one (.c (.func (.func 75) #[] #[.pointer (some ⟨b, 0, none⟩), .pointer (some ⟨d, 0, none⟩), .pointer (some ⟨a, 0, none⟩), .pointer (some ⟨f, 0, none⟩)]))), (tP 6 4 0), (tP 5 3 0), (tP 4 2 0), (tP 3 1 0), (tP 2 0 0)] az) => ?_
 refine wl fun K hK => ?_
 refine wst 4 0 (.c (.func (.func 75) #[] #[.pointer (some ⟨b, 0, none⟩), .pointer (some ⟨d, 0, none⟩), .pointer (some ⟨a, 0, none⟩), .pointer (some ⟨f, 0, none⟩)])) [.func (.func 75) #[] #[.pointer (some ⟨b, 0, none⟩), .pointer (some ⟨d, 0, none⟩), .pointer (some ⟨a, 0, none⟩), .pointer (some ⟨f, 0, none⟩)]] bp ak fun ce bq aw => hK _ _ ?_
 have br : Kn 12 (K51e2 a b g d f) [(tP 6 4 0), (tP 4 2 0)] az := bq.kp
 refine wf (wp_seq (wp_region_from (Rk 0 2 [(tA 10 [.int .i64 0, .int .i64 (-1)]), (9, .one (.c (.func (.func 75) #[] #[.pointer (some ⟨b, 0, none⟩), .pointer (some ⟨d, 0, none⟩), .pointer (some ⟨a, 0, none⟩), .pointer (some ⟨f, 0, none⟩)]))), (tP 4 2 0)] br aw fun cl bs => ?_)))
 obtain ⟨ae, ab, bf, al⟩ := aw.settlePlc (i := 4) rfl
 replace af := af.mono (Heap.le_trans (Heap.le_trans aa s) ab)
 replace ah := ah.mono (Heap.le_trans s ab)
 replace ag := ag.mono ab
 replace ad := ad.mono (Heap.le_trans (Heap.le_trans (Heap.le_trans z aa) s) ab)
 replace al : Mem (Fr.put ⟨w, h, noX⟩ j (some (.map #[] 0))) ae (K51e2 a b g d f) [⟨(K51c3 k y o l p), none⟩, ⟨(K51c1 m c q), none⟩, ⟨K51c4, some 96⟩, ⟨[.map (some j)], none⟩, ⟨[.func (.func 75) #[] #[.pointer (some ⟨b, 0, none⟩), .pointer (some ⟨d, 0, none⟩), .pointer (some ⟨a, 0, none⟩), .pointer (some ⟨f, 0, none⟩)]], none⟩] [] ce := al
 have bd : CellsAt ae f [.func (.func 75) #[] #[.pointer (some ⟨b, 0, none⟩), .pointer (some ⟨d, 0, none⟩), .pointer (some ⟨a, 0, none⟩), .pointer (some ⟨f, 0, none⟩)]] := CellsAt.of (e := [(a, 0), (b, 0), (g, 0), (d, 0), (f, 0)]) (cs := [.func (.func 75) #[] #[.pointer (some ⟨b, 0, none⟩), .pointer (some ⟨d, 0, none⟩), .pointer (some ⟨a, 0, none⟩), .pointer (some ⟨f, 0, none⟩)]]) rfl bf
 obtain ⟨x11, ex11, H⟩ := bnd H
 obtain ⟨cg, bc, bw, b8⟩ := al.lend1 j (Fr.put_X _ _ _) [] [] (by kernel_rfl) (by kernel_rfl) (by kernel_rfl) (by kernel_rfl)
 refine wl fun K hK => ?_
 refine wp_callVM (.func (.func 75) #[] #[.pointer (some ⟨b, 0, none⟩), .pointer (some ⟨d, 0, none⟩), .pointer (some ⟨a, 0, none⟩), .pointer (some ⟨f, 0, none⟩)]) [.agg [.int .i64 0, .int .i64 (-1)]] _ bs rfl rfl (by decide) (by rfl) (by rfl) rfl ⟨75, _, _, rfl, fun _ _ => by kernel_rfl, lane_Yard_worst_1_ok n (Stand.mk 0 (-1)) ((rep_pair rep_int rep_int) : rep ae (Stand.mk 0 (-1)) _) c af ([] : List (Stand × Found)) ah (bc _ _ (Fr.put_X _ _ _)) ad y ag bd bw ex11⟩ fun cm cf bb => ?_
 obtain ⟨ar, ba, a9, bx, ⟨_, rfl, ⟨_, _, rfl, rfl, ⟨_, _, rfl, rfl, ⟨_, _, rfl, rfl, ⟨_, _, rfl, rfl, ⟨_, _, rfl, rfl, ⟨_, _, rfl, rfl, ⟨_, _, rfl, rfl, ⟨_, _, rfl, rfl, rfl⟩⟩⟩⟩⟩⟩⟩⟩⟩, ch, b6⟩ := bb
 have ac := b8 _ _ _ _ [] bx rfl (Nat.le_refl _) (by kernel_rfl) b6
 rw [Fr.put_put] at ac
 replace ac : Mem (Fr.put ⟨w, h, noX⟩ j (some (.map ba a9))) ar [(a, 0), (b, 0), (g, 0), (d, 0), (f, 0)] [⟨[.slice k y.room.length o, .slice l y.buses.length p, .int .i64 y.broken], none⟩, ⟨[.slice m c.buses.length q, .int .i64 c.down], none⟩, ⟨[.int .i64 0, .int .i64 0, .int .i64 0, .int .i64 0, .int .i64 0, .int .i64 0, .int .i64 0, .int .i64 0, .int .i64 0], some 96⟩, ⟨[.map (some j)], none⟩, ⟨[.func (.func 75) #[] #[.pointer (some ⟨b, 0, none⟩), .pointer (some ⟨d, 0, none⟩), .pointer (some ⟨a, 0, none⟩), .pointer (some ⟨f, 0, none⟩)]], none⟩] [] cf := ac
 refine ⟨.one (.agg (K51c5 x11)), rfl, fun a8 (bt : Kn 12 (K51e2 a b g d f) [(tA 11 (K51c5 x11)), (tA 10 [.int .i64 0, .int .i64 (-1)]), (9, .one (.c (.func (.func 75) #[] #[.pointer (some ⟨b, 0, none⟩), .pointer (some ⟨d, 0, none⟩), .pointer (some ⟨a, 0, none⟩), .pointer (some ⟨f, 0, none⟩)]))), (tP 4 2 0)] a8) => hK _ _ ?_⟩
 refine wl fun K hK => ?_
 refine wst 2 0 (.agg (K51c5 x11)) (K51c5 x11) bt ac fun cr bu b7 => hK _ _ ?_
 have bv : Kn 12 (K51e2 a b g d f) [(tP 4 2 0)] a8 := bu.kp
 refine wf (wp_ret ?_)
 obtain rfl := Option.some.inj H
 exact rt (.one (.agg (K51c5 x11))) bv b7 ⟨_, rfl, ((rep_pair rep_int (rep_pair rep_int (rep_pair rep_int (rep_pair rep_int (rep_pair rep_int (rep_pair rep_int (rep_pair rep_int (rep_pair rep_int rep_int)))))))) : rep ar (x11.1 : Found) _)⟩
abbrev K55c1 (ab : Option Addr) (x30 : Column) (ac : Nat) : List SC := [.slice ab x30.buses.length ac, .int .i64 x30.down]
abbrev K55c2 (m : Option Addr) (y : Yard) (q : Nat) (p : Option Addr) (s : Nat) : List SC := [.slice m y.room.length q, .slice p y.buses.length s, .int .i64 y.broken]
abbrev K55e3 (f g i k l : Nat) (x_v10 : Int) (x aa : Nat) : Env := [(f, 0), (g, 0), (i, 0), (k, l + (x_v10 : Int).toNat * 8), (x, 0), (aa, 0)]
abbrev K55c4 : List SC := [.int .i64 0, .int .i64 0, .int .i64 0, .int .i64 0, .int .i64 0, .int .i64 0, .int .i64 0, .int .i64 0]
abbrev K55c5 : List SC := [.bool false, .bool false, .bool false, .bool false, .bool false, .bool false, .bool false, .bool false]
abbrev K55c6 (x21 : Some) : List SC := [.bool x21.a0, .bool x21.a1, .bool x21.a2, .bool x21.a3, .bool x21.a4, .bool x21.a5, .bool x21.a6, .bool x21.a7]
abbrev K55c7 (x_v13 : Some) : List SC := [.bool x_v13.a0, .bool x_v13.a1, .bool x_v13.a2, .bool x_v13.a3, .bool x_v13.a4, .bool x_v13.a5, .bool x_v13.a6, .bool x_v13.a7]
abbrev K55c8 (a : (Int × Places × Some)) : List SC := [.bool a.2.2.a0, .bool a.2.2.a1, .bool a.2.2.a2, .bool a.2.2.a3, .bool a.2.2.a4, .bool a.2.2.a5, .bool a.2.2.a6, .bool a.2.2.a7]
abbrev K55c9 (x_v12 : Places) : List SC := [.int .i64 x_v12.a0, .int .i64 x_v12.a1, .int .i64 x_v12.a2, .int .i64 x_v12.a3, .int .i64 x_v12.a4, .int .i64 x_v12.a5, .int .i64 x_v12.a6, .int .i64 x_v12.a7]
abbrev K55e10 (f g i k l : Nat) (x_v10 : Int) (x aa ae af : Nat) (x_v20 : Int) (ag aj : Nat) : Env := [(f, 0), (g, 0), (i, 0), (k, l + (x_v10 : Int).toNat * 8), (x, 0), (aa, 0), (ae, af + (x_v20 : Int).toNat * 2), (ag, 0), (aj, 0)]
abbrev K55c11 (ad : (Int × Places)) : List SC := [.int .i64 ad.2.a0, .int .i64 ad.2.a1, .int .i64 ad.2.a2, .int .i64 ad.2.a3, .int .i64 ad.2.a4, .int .i64 ad.2.a5, .int .i64 ad.2.a6, .int .i64 ad.2.a7]
abbrev K55c12 (a : (Int × Places × Some)) : List SC := [.int .i64 a.2.1.a0, .int .i64 a.2.1.a1, .int .i64 a.2.1.a2, .int .i64 a.2.1.a3, .int .i64 a.2.1.a4, .int .i64 a.2.1.a5, .int .i64 a.2.1.a6, .int .i64 a.2.1.a7]
abbrev K55c13 (x34 : Found) : List SC := [.int .i64 x34.many, .int .i64 x34.tm.a0, .int .i64 x34.tm.a1, .int .i64 x34.tm.a2, .int .i64 x34.tm.a3, .int .i64 x34.tm.a4, .int .i64 x34.tm.a5, .int .i64 x34.tm.a6, .int .i64 x34.tm.a7]
abbrev K55e14 (f g i k l : Nat) (x_v10 : Int) (x aa ae af : Nat) (x_v20 : Int) (ag aj aq ar : Nat) (x_v30 : Int) : Env := [(f, 0), (g, 0), (i, 0), (k, l + (x_v10 : Int).toNat * 8), (x, 0), (aa, 0), (ae, af + (x_v20 : Int).toNat * 2), (ag, 0), (aj, 0), (aq, ar + (x_v30 : Int).toNat * 1)]
abbrev K55p15 (m : Option Addr) (y : Yard) (q : Nat) (p : Option Addr) (s : Nat) (a : (Int × Places × Some)) : List Plc := [⟨(K55c2 m y q p s), some 33⟩, ⟨(K55c12 a), some 94⟩, ⟨(K55c8 a), some 74⟩]
abbrev K55m16 (x_v10 : Int) (x17 : List Some) (d : Option Addr) (e : Nat) (x_v11 : Int) (a_lanes : Option Addr) (lanes : List Int) (c_lanes : Nat) : TM := [(tI 19 x_v10), (tI 18 ((x17.length : Nat) : Int)), (tS 17 d x17.length e), (tI 6 x_v11), (tP 5 2 0), (tP 4 1 0), (tP 2 0 0), (tS 1 a_lanes lanes.length c_lanes)]
abbrev K55m17 (x30 : Column) (ab : Option Addr) (ac : Nat) (x_v21 : Int) (x34 : Found) (x_v20 : Int) (x26 : List Column) (u : Option Addr) (z : Nat) (x_v10 : Int) (x17 : List Some) (d : Option Addr) (e : Nat) (x_v11 : Int) (a_lanes : Option Addr) (lanes : List Int) (c_lanes : Nat) : TM := (tI 41 ((x30.buses.length : Nat) : Int)) :: (tS 40 ab x30.buses.length ac) :: (tI 9 (IntKind.i64.wrap (x_v21 + x34.many))) :: (tP 13 8 0) :: (tI 28 x_v20) :: (tI 27 ((x26.length : Nat) : Int)) :: (tS 26 u x26.length z) :: (tP 10 5 0) :: (tP 8 4 0) :: (K55m16 x_v10 x17 d e x_v11 a_lanes lanes c_lanes)
abbrev K55m18 (x_v20 : Int) (x26 : List Column) (u : Option Addr) (z : Nat) (x_v21 x_v10 : Int) (x17 : List Some) (d : Option Addr) (e : Nat) (x_v11 : Int) (a_lanes : Option Addr) (lanes : List Int) (c_lanes : Nat) : TM := (tI 28 x_v20) :: (tI 27 ((x26.length : Nat) : Int)) :: (tS 26 u x26.length z) :: (tP 10 5 0) :: (tI 9 x_v21) :: (tP 8 4 0) :: (K55m16 x_v10 x17 d e x_v11 a_lanes lanes c_lanes)
abbrev K55m19 (a_lanes : Option Addr) (lanes : List Int) (c_lanes : Nat) : TM := [(tP 5 2 0), (tP 4 1 0), (tP 2 0 0), (tS 1 a_lanes lanes.length c_lanes)]
set_option maxRecDepth 100000 in
set_option maxHeartbeats 4000000 in
theorem lane_Yard_hardest_ok (n : Nat) {h : Heap} {w : World} (hh : Has h w) (y : Yard) {cs_y : List Value} (hx_y : rep h y cs_y) (lanes : List Int) {a_lanes : Option Addr} {c_lanes : Nat} (hr_lanes : RepS h a_lanes c_lanes lanes) {r : Places × Some × Int} (H : lane_Yard_hardest n y lanes = some r) :
  Calls Try.prog 55 #[.agg cs_y.toArray, .slice a_lanes lanes.length c_lanes] w (Ret (fun h v => ∃ v0 v1 v2, v = .tuple #[v0, v1, v2] ∧ (∃ cs, v0 = .agg cs.toArray ∧ rep h r.1 cs) ∧ (∃ cs, v1 = .agg cs.toArray ∧ rep h r.2.1 cs) ∧ (v2 = .int .i64 r.2.2)) h w) := by
 obtain ⟨_, _, rfl, ⟨m, q, rfl, ak⟩, ⟨_, _, rfl, ⟨p, s, rfl, al⟩, rfl⟩⟩ := hx_y
 refine enter 64 [.agg (K55c2 m y q p s), .c (.slice a_lanes lanes.length c_lanes)] Try.func55 rfl rfl rfl rfl fun t hk => ?_
 have hm := Mem.begin h w hh
 unfold lane_Yard_hardest at H
 refine wp_seq (wp_region_from (wl fun K hK => ?_))
 refine wb (.agg (K55c2 m y q p s)) hk hm fun f f4 h0 (dd : Kn 64 [(f, 0)] [(tP 2 0 0), (tA 0 (K55c2 m y q p s)), (tS 1 a_lanes lanes.length c_lanes)] f4) e0 => hK _ _ ?_
 refine wl fun K hK => ?_
 refine wa K55c4 dd e0 fun g ft ha (dn : Kn 64 [(f, 0), (g, 0)] [(tP 4 1 0), (tP 2 0 0), (tA 0 (K55c2 m y q p s)), (tS 1 a_lanes lanes.length c_lanes)] ft) e3 => hK _ _ ?_
 refine wl fun K hK => ?_
 refine wa K55c5 dn e3 fun i fw hg (dy : Kn 64 [(f, 0), (g, 0), (i, 0)] [(tP 5 2 0), (tP 4 1 0), (tP 2 0 0), (tA 0 (K55c2 m y q p s)), (tS 1 a_lanes lanes.length c_lanes)] fw) bd => hK _ _ ?_
 refine Rk 3 1 (K55m19 a_lanes lanes c_lanes) dy bd fun gn d5 => ?_
 refine wf (wp_seq (wp_region_from (Rk 0 1 ((tI 6 (-1)) :: (K55m19 a_lanes lanes c_lanes)) d5 bd fun gs ed => ?_)))
 refine wf (wp_seq (wp_seq (wp_region_from (Rk 0 1 ((tA 16 (K55c2 m y q p s)) :: (tI 6 (-1)) :: (K55m19 a_lanes lanes c_lanes)) ed bd fun gy ej => ?_))))
 obtain ⟨x17, ex17, H⟩ := bnd H
 refine wl fun K hK => ?_
 refine wc [.agg (K55c2 m y q p s)] ej bd (lane_Yard_breaks_ok n bd.has y ((rep_pair (rep_slice ak) (rep_pair (rep_slice al) rep_int)) : rep h y _) ex17) fun g6 cg hv c5 bv cu => ?_
 replace ak := ak.mono bv
 replace al := al.mono bv
 replace hr_lanes := hr_lanes.mono bv
 obtain ⟨d, e, rfl, ap⟩ := c5
 refine ⟨.one (.c (.slice d x17.length e)), rfl, fun f2 (en : Kn 64 [(f, 0), (g, 0), (i, 0)] ((tS 17 d x17.length e) :: (tA 16 (K55c2 m y q p s)) :: (tI 6 (-1)) :: (K55m19 a_lanes lanes c_lanes)) f2) => hK _ _ ?_⟩
 refine Rk 2 2 ((tI 19 0) :: (tI 18 ((x17.length : Nat) : Int)) :: (tS 17 d x17.length e) :: (tI 6 (-1)) :: (K55m19 a_lanes lanes c_lanes)) en cu fun g0 eo => ?_
 refine wf ?_
 obtain ⟨a, ce, H⟩ := bnd H
 refine wp_mid' (fun a' w' => ∃ (ca : Array Value) (bg : Heap), a' = ⟨ca, []⟩ ∧ Kn 64 [(f, 0), (g, 0), (i, 0)] [(tI 6 a.1), (tP 5 2 0), (tP 4 1 0)] ca ∧ Mem ⟨w, h, noX⟩ bg [(f, 0), (g, 0), (i, 0)] (K55p15 m y q p s a) [] w' ∧ Heap.le cg bg) ?_ ?_
 ·
  refine wp_block ?_
  refine wp_loop_n (fun fs a' w' => ∃ (x_v10 : Int) (x_v11 : Int) (x_v12 : Places) (x_v13 : Some) (cb : Array Value) (bc : Heap), a' = ⟨cb, []⟩ ∧ Kn 64 [(f, 0), (g, 0), (i, 0)] (K55m16 x_v10 x17 d e x_v11 a_lanes lanes c_lanes) cb ∧ Mem ⟨w, h, noX⟩ bc [(f, 0), (g, 0), (i, 0)] [⟨(K55c2 m y q p s), some 33⟩, ⟨(K55c9 x_v12), some 94⟩, ⟨(K55c7 x_v13), some 74⟩] [] w' ∧ Heap.le cg bc ∧ lane_Yard_hardest_l1 fs y lanes x17 x_v10 x_v11 x_v12 x_v13 = some a) n ?_ ?_
  ·
   exact Exists.intro 0 ⟨(-1), (Places.mk 0 0 0 0 0 0 0 0), (Some.mk false false false false false false false false), _, _, rfl, eo.kp, cu, (Heap.le_refl _), ce⟩
  ·
   rintro a9 _ hw ⟨x_v10, x_v11, x_v12, x_v13, cb, bc, rfl, ep, b2, aw, ai⟩
   clear ce
   obtain _ | a9 := a9
   ·
    rw [lane_Yard_hardest_l1] at ai; cases ai
   rw [lane_Yard_hardest_l1] at ai
   replace ak := ak.mono aw
   replace al := al.mono aw
   replace hr_lanes := hr_lanes.mono aw
   replace ap := ap.mono aw
   refine wp_seq (wp_region_from (Rk 0 1 ((tB 20 (decide (x_v10 < ((x17.length : Nat) : Int)))) :: (K55m16 x_v10 x17 d e x_v11 a_lanes lanes c_lanes)) ep b2 fun g1 bt => ?_))
   refine wf (wp_seq (wC (decide (x_v10 < ((x17.length : Nat) : Int))) bt (fun bp => ?_) (fun bp => ?_)))
   ·
    rw [bp, cond_true] at ai
    refine wp_skip (wp_seq (wp_block (wp_seq (wp_region_from ?_))))
    obtain ⟨x21, ex21, ai⟩ := bnd ai
    obtain ⟨fc, fh, fp⟩ := idx_some ex21
    obtain ⟨k, l, f9, c9, fk, dc⟩ := ap.get (by decide) fp
    obtain ⟨_, _, rfl, rfl, ⟨_, _, rfl, rfl, ⟨_, _, rfl, rfl, ⟨_, _, rfl, rfl, ⟨_, _, rfl, rfl, ⟨_, _, rfl, rfl, ⟨_, _, rfl, rfl, rfl⟩⟩⟩⟩⟩⟩⟩ := fk
    have cv := b2.addPlc (b := k) (o := l + (x_v10 : Int).toNat * 8) (cs := (K55c6 x21)) (fun j c hj => dc j _ (map_get hj)) rfl (by kernel_rfl) (by kernel_rfl)
    refine R_index 0 (x_v10) rfl rfl (rfl) rfl (by decide) bt (by rfl) (by rfl) (by rfl) c9 (by rfl) fc fh (by kernel_rfl) fun f3 (er : Kn 64 [(f, 0), (g, 0), (i, 0), (k, l + (x_v10 : Int).toNat * 8)] ((tP 21 3 0) :: (tB 20 (decide (x_v10 < ((x17.length : Nat) : Int)))) :: (K55m16 x_v10 x17 d e x_v11 a_lanes lanes c_lanes)) f3) => ?_
    refine Rk 1 1 ((tA 22 (K55c6 x21)) :: (K55m16 x_v10 x17 d e x_v11 a_lanes lanes c_lanes)) er cv fun g2 es => ?_
    refine wl fun K hK => ?_
    refine wa K55c5 es cv fun x c2 hx (et : Kn 64 [(f, 0), (g, 0), (i, 0), (k, l + (x_v10 : Int).toNat * 8), (x, 0)] ((tP 8 4 0) :: (tA 22 (K55c6 x21)) :: (K55m16 x_v10 x17 d e x_v11 a_lanes lanes c_lanes)) c2) e7 => hK _ _ ?_
    refine wl fun K hK => ?_
    refine wst 4 0 (.agg (K55c6 x21)) (K55c6 x21) et e7 fun hy eu cw => hK _ _ ?_
    have ev : Kn 64 [(f, 0), (g, 0), (i, 0), (k, l + (x_v10 : Int).toNat * 8), (x, 0)] ((tP 8 4 0) :: (K55m16 x_v10 x17 d e x_v11 a_lanes lanes c_lanes)) c2 := eu.kp
    refine wf (wp_seq (wp_region_from (Rk 0 1 ((tI 9 0) :: (tP 8 4 0) :: (K55m16 x_v10 x17 d e x_v11 a_lanes lanes c_lanes)) ev cw fun g3 ew => ?_)))
    refine wf (wp_seq (wp_region_from (wl fun K hK => ?_)))
    refine wa K55c4 ew cw fun aa f5 hz (ex : Kn 64 (K55e3 f g i k l x_v10 x aa) ((tP 10 5 0) :: (tI 9 0) :: (tP 8 4 0) :: (K55m16 x_v10 x17 d e x_v11 a_lanes lanes c_lanes)) f5) b3 => hK _ _ ?_
    refine wf (wp_seq (wp_seq (wp_region_from (Rk 0 3 ((tA 25 (K55c6 x21)) :: (tS 24 a_lanes lanes.length c_lanes) :: (tA 23 (K55c2 m y q p s)) :: (tP 10 5 0) :: (tI 9 0) :: (tP 8 4 0) :: (K55m16 x_v10 x17 d e x_v11 a_lanes lanes c_lanes)) ex b3 fun g4 ey => ?_))))
    obtain ⟨x26, ex26, ai⟩ := bnd ai
    refine wl fun K hK => ?_
    refine wc [.agg (K55c2 m y q p s), .c (.slice a_lanes lanes.length c_lanes), .agg (K55c6 x21)] ey b3 (lane_Yard_columns_ok a9 b3.has y ((rep_pair (rep_slice ak) (rep_pair (rep_slice al) rep_int)) : rep bc y _) lanes hr_lanes x21 ((rep_pair rep_bool (rep_pair rep_bool (rep_pair rep_bool (rep_pair rep_bool (rep_pair rep_bool (rep_pair rep_bool (rep_pair rep_bool rep_bool))))))) : rep bc x21 _) ex26) fun g7 ch h1 c6 az cx => ?_
    replace ak := ak.mono az
    replace al := al.mono az
    replace hr_lanes := hr_lanes.mono az
    replace ap := ap.mono az
    obtain ⟨u, z, rfl, be⟩ := c6
    refine ⟨.one (.c (.slice u x26.length z)), rfl, fun f6 (de : Kn 64 (K55e3 f g i k l x_v10 x aa) ((tS 26 u x26.length z) :: (tA 25 (K55c6 x21)) :: (tS 24 a_lanes lanes.length c_lanes) :: (tA 23 (K55c2 m y q p s)) :: (tP 10 5 0) :: (tI 9 0) :: (tP 8 4 0) :: (K55m16 x_v10 x17 d e x_v11 a_lanes lanes c_lanes)) f6) => hK _ _ ?_⟩
    refine Rk 4 2 ((tI 28 0) :: (tI 27 ((x26.length : Nat) : Int)) :: (tS 26 u x26.length z) :: (tP 10 5 0) :: (tI 9 0) :: (tP 8 4 0) :: (K55m16 x_v10 x17 d e x_v11 a_lanes lanes c_lanes)) de cx fun gd df => ?_
    refine wf ?_
    obtain ⟨ad, cc, ai⟩ := bnd ai
    refine wp_mid' (fun a' w' => ∃ (b5 : Array Value) (bj : Heap), a' = ⟨b5, []⟩ ∧ Kn 64 (K55e3 f g i k l x_v10 x aa) ((tP 10 5 0) :: (tI 9 ad.1) :: (tP 8 4 0) :: (K55m16 x_v10 x17 d e x_v11 a_lanes lanes c_lanes)) b5 ∧ Mem ⟨w, h, noX⟩ bj (K55e3 f g i k l x_v10 x aa) [⟨(K55c2 m y q p s), some 33⟩, ⟨(K55c9 x_v12), some 94⟩, ⟨(K55c7 x_v13), some 74⟩, ⟨(K55c6 x21), none⟩, ⟨(K55c6 x21), some 74⟩, ⟨(K55c11 ad), some 94⟩] [] w' ∧ Heap.le ch bj) ?_ ?_
    ·
     refine wp_block ?_
     refine wp_loop_n (fun fq a' w' => ∃ (x_v20 : Int) (x_v21 : Int) (x_v22 : Places) (b6 : Array Value) (ba : Heap), a' = ⟨b6, []⟩ ∧ Kn 64 (K55e3 f g i k l x_v10 x aa) (K55m18 x_v20 x26 u z x_v21 x_v10 x17 d e x_v11 a_lanes lanes c_lanes) b6 ∧ Mem ⟨w, h, noX⟩ ba (K55e3 f g i k l x_v10 x aa) [⟨(K55c2 m y q p s), some 33⟩, ⟨(K55c9 x_v12), some 94⟩, ⟨(K55c7 x_v13), some 74⟩, ⟨(K55c6 x21), none⟩, ⟨(K55c6 x21), some 74⟩, ⟨[.int .i64 x_v22.a0, .int .i64 x_v22.a1, .int .i64 x_v22.a2, .int .i64 x_v22.a3, .int .i64 x_v22.a4, .int .i64 x_v22.a5, .int .i64 x_v22.a6, .int .i64 x_v22.a7], some 94⟩] [] w' ∧ Heap.le ch ba ∧ lane_Yard_hardest_l2 fq y x26 x_v20 x_v21 x_v22 = some ad) a9 ?_ ?_
     ·
      exact Exists.intro 0 ⟨0, (Places.mk 0 0 0 0 0 0 0 0), _, _, rfl, df.kp, cx, (Heap.le_refl _), cc⟩
     ·
      rintro bf _ g8 ⟨x_v20, x_v21, x_v22, b6, ba, rfl, dg, bw, au, am⟩
      clear cc
      obtain _ | bf := bf
      ·
       rw [lane_Yard_hardest_l2] at am; cases am
      rw [lane_Yard_hardest_l2] at am
      replace ak := ak.mono au
      replace al := al.mono au
      replace hr_lanes := hr_lanes.mono au
      replace ap := ap.mono au
      replace be := be.mono au
      refine wp_seq (wp_region_from (Rk 0 1 ((tB 29 (decide (x_v20 < ((x26.length : Nat) : Int)))) :: (K55m18 x_v20 x26 u z x_v21 x_v10 x17 d e x_v11 a_lanes lanes c_lanes)) dg bw fun gf bq => ?_))
      refine wf (wp_seq (wC (decide (x_v20 < ((x26.length : Nat) : Int))) bq (fun bm => ?_) (fun bm => ?_)))
      ·
       rw [bm, cond_true] at am
       refine wp_skip (wp_seq (wp_block (wp_seq (wp_region_from ?_))))
       obtain ⟨x30, ex30, am⟩ := bnd am
       obtain ⟨e8, fd, fl⟩ := idx_some ex30
       obtain ⟨ae, af, f7, c7, fi, da⟩ := be.get (by decide) fl
       obtain ⟨_, _, rfl, ⟨ab, ac, rfl, a8⟩, rfl⟩ := fi
       have co := bw.addPlc (b := ae) (o := af + (x_v20 : Int).toNat * 2) (cs := (K55c1 ab x30 ac)) (fun j c hj => da j _ (map_get hj)) rfl (by kernel_rfl) (by kernel_rfl)
       refine R_index 0 (x_v20) rfl rfl (rfl) rfl (by decide) bq (by rfl) (by rfl) (by rfl) c7 (by rfl) e8 fd (by kernel_rfl) fun fu (dh : Kn 64 [(f, 0), (g, 0), (i, 0), (k, l + (x_v10 : Int).toNat * 8), (x, 0), (aa, 0), (ae, af + (x_v20 : Int).toNat * 2)] ((tP 30 6 0) :: (tB 29 (decide (x_v20 < ((x26.length : Nat) : Int)))) :: (K55m18 x_v20 x26 u z x_v21 x_v10 x17 d e x_v11 a_lanes lanes c_lanes)) fu) => ?_
       refine Rk 1 1 ((tA 31 (K55c1 ab x30 ac)) :: (K55m18 x_v20 x26 u z x_v21 x_v10 x17 d e x_v11 a_lanes lanes c_lanes)) dh co fun gg di => ?_
       refine wl fun K hK => ?_
       refine wa [.slice none 0 0, .int .i64 0] di co fun ag cz g9 (dj : Kn 64 [(f, 0), (g, 0), (i, 0), (k, l + (x_v10 : Int).toNat * 8), (x, 0), (aa, 0), (ae, af + (x_v20 : Int).toNat * 2), (ag, 0)] ((tP 12 7 0) :: (tA 31 (K55c1 ab x30 ac)) :: (K55m18 x_v20 x26 u z x_v21 x_v10 x17 d e x_v11 a_lanes lanes c_lanes)) cz) e1 => hK _ _ ?_
       refine wl fun K hK => ?_
       refine wst 7 0 (.agg (K55c1 ab x30 ac)) (K55c1 ab x30 ac) dj e1 fun hb dk bx => hK _ _ ?_
       have dl : Kn 64 [(f, 0), (g, 0), (i, 0), (k, l + (x_v10 : Int).toNat * 8), (x, 0), (aa, 0), (ae, af + (x_v20 : Int).toNat * 2), (ag, 0)] ((tP 12 7 0) :: (K55m18 x_v20 x26 u z x_v21 x_v10 x17 d e x_v11 a_lanes lanes c_lanes)) cz := dk.kp
       refine wf (wp_seq (wp_region_from (Rk 0 2 ((tA 33 (K55c1 ab x30 ac)) :: (tA 32 (K55c2 m y q p s)) :: (tP 12 7 0) :: (K55m18 x_v20 x26 u z x_v21 x_v10 x17 d e x_v11 a_lanes lanes c_lanes)) dl bx fun gh dm => ?_)))
       obtain ⟨x34, ex34, am⟩ := bnd am
       refine wl fun K hK => ?_
       refine wc [.agg (K55c2 m y q p s), .agg (K55c1 ab x30 ac)] dm bx (lane_Yard_worst_ok bf bx.has y ((rep_pair (rep_slice ak) (rep_pair (rep_slice al) rep_int)) : rep ba y _) x30 ((rep_pair (rep_slice a8) rep_int) : rep ba x30 _) ex34) fun g5 cf hc c4 av e2 => ?_
       replace ak := ak.mono av
       replace al := al.mono av
       replace hr_lanes := hr_lanes.mono av
       replace ap := ap.mono av
       replace be := be.mono av
       replace a8 := a8.mono av
       obtain ⟨_, rfl, ⟨_, _, rfl, rfl, ⟨_, _, rfl, rfl, ⟨_, _, rfl, rfl, ⟨_, _, rfl, rfl, ⟨_, _, rfl, rfl, ⟨_, _, rfl, rfl, ⟨_, _, rfl, rfl, ⟨_, _, rfl, rfl, rfl⟩⟩⟩⟩⟩⟩⟩⟩⟩ := c4
       refine ⟨.one (.agg (K55c13 x34)), rfl, fun fv (dp : Kn 64 [(f, 0), (g, 0), (i, 0), (k, l + (x_v10 : Int).toNat * 8), (x, 0), (aa, 0), (ae, af + (x_v20 : Int).toNat * 2), (ag, 0)] ((tA 34 (K55c13 x34)) :: (tA 33 (K55c1 ab x30 ac)) :: (tA 32 (K55c2 m y q p s)) :: (tP 12 7 0) :: (K55m18 x_v20 x26 u z x_v21 x_v10 x17 d e x_v11 a_lanes lanes c_lanes)) fv) => hK _ _ ?_⟩
       refine wl fun K hK => ?_
       refine wa [.int .i64 0, .int .i64 0, .int .i64 0, .int .i64 0, .int .i64 0, .int .i64 0, .int .i64 0, .int .i64 0, .int .i64 0] dp e2 fun aj c0 hd (dq : Kn 64 (K55e10 f g i k l x_v10 x aa ae af x_v20 ag aj) ((tP 13 8 0) :: (tA 34 (K55c13 x34)) :: (tA 33 (K55c1 ab x30 ac)) :: (tA 32 (K55c2 m y q p s)) :: (tP 12 7 0) :: (K55m18 x_v20 x26 u z x_v21 x_v10 x17 d e x_v11 a_lanes lanes c_lanes)) c0) e4 => hK _ _ ?_
       refine wl fun K hK => ?_
       refine wst 8 0 (.agg (K55c13 x34)) (K55c13 x34) dq e4 fun he dr bz => hK _ _ ?_
       have ds : Kn 64 (K55e10 f g i k l x_v10 x aa ae af x_v20 ag aj) ((tP 13 8 0) :: (tP 12 7 0) :: (K55m18 x_v20 x26 u z x_v21 x_v10 x17 d e x_v11 a_lanes lanes c_lanes)) c0 := dr.kp
       refine wf (wp_seq (wp_region_from (Rk 0 5 ((tI 9 (IntKind.i64.wrap (x_v21 + x34.many))) :: (tP 13 8 0) :: (tP 12 7 0) :: (tI 28 x_v20) :: (tI 27 ((x26.length : Nat) : Int)) :: (tS 26 u x26.length z) :: (tP 10 5 0) :: (tP 8 4 0) :: (K55m16 x_v10 x17 d e x_v11 a_lanes lanes c_lanes)) ds bz fun gi dt => ?_)))
       refine wf (wp_seq (wp_region_from (Rk 0 4 ((tI 42 0) :: (K55m17 x30 ab ac x_v21 x34 x_v20 x26 u z x_v10 x17 d e x_v11 a_lanes lanes c_lanes)) dt bz fun gj du => ?_)))
       refine wf ?_
       obtain ⟨an, cd, am⟩ := bnd am
       refine wp_mid' (fun a' w' => ∃ (b7 : Array Value) (bk : Heap), a' = ⟨b7, []⟩ ∧ Kn 64 (K55e10 f g i k l x_v10 x aa ae af x_v20 ag aj) ((tI 9 (IntKind.i64.wrap (x_v21 + x34.many))) :: (tI 28 x_v20) :: (tI 27 ((x26.length : Nat) : Int)) :: (tS 26 u x26.length z) :: (tP 10 5 0) :: (tP 8 4 0) :: (K55m16 x_v10 x17 d e x_v11 a_lanes lanes c_lanes)) b7 ∧ Mem ⟨w, h, noX⟩ bk (K55e10 f g i k l x_v10 x aa ae af x_v20 ag aj) [⟨(K55c2 m y q p s), some 33⟩, ⟨(K55c9 x_v12), some 94⟩, ⟨(K55c7 x_v13), some 74⟩, ⟨(K55c6 x21), none⟩, ⟨(K55c6 x21), some 74⟩, ⟨[.int .i64 an.a0, .int .i64 an.a1, .int .i64 an.a2, .int .i64 an.a3, .int .i64 an.a4, .int .i64 an.a5, .int .i64 an.a6, .int .i64 an.a7], some 94⟩, ⟨(K55c1 ab x30 ac), none⟩, ⟨(K55c1 ab x30 ac), some 90⟩, ⟨(K55c13 x34), some 96⟩] [] w' ∧ Heap.le cf bk) ?_ ?_
       ·
        refine wp_block ?_
        refine wp_loop_n (fun fr a' w' => ∃ (x_v30 : Int) (x_v31 : Places) (b8 : Array Value) (bl : Heap), a' = ⟨b8, []⟩ ∧ Kn 64 (K55e10 f g i k l x_v10 x aa ae af x_v20 ag aj) ((tI 42 x_v30) :: (K55m17 x30 ab ac x_v21 x34 x_v20 x26 u z x_v10 x17 d e x_v11 a_lanes lanes c_lanes)) b8 ∧ Mem ⟨w, h, noX⟩ bl (K55e10 f g i k l x_v10 x aa ae af x_v20 ag aj) [⟨(K55c2 m y q p s), some 33⟩, ⟨(K55c9 x_v12), some 94⟩, ⟨(K55c7 x_v13), some 74⟩, ⟨(K55c6 x21), none⟩, ⟨(K55c6 x21), some 74⟩, ⟨[.int .i64 x_v31.a0, .int .i64 x_v31.a1, .int .i64 x_v31.a2, .int .i64 x_v31.a3, .int .i64 x_v31.a4, .int .i64 x_v31.a5, .int .i64 x_v31.a6, .int .i64 x_v31.a7], some 94⟩, ⟨(K55c1 ab x30 ac), none⟩, ⟨(K55c1 ab x30 ac), some 90⟩, ⟨(K55c13 x34), some 96⟩] [] w' ∧ Heap.le cf bl ∧ lane_Yard_hardest_l3 fr x30 x34 x_v30 x_v31 = some an) bf ?_ ?_
        ·
         exact Exists.intro 0 ⟨x_v22, _, _, rfl, du.kp, bz, (Heap.le_refl _), cd⟩
        ·
         rintro b4 _ hf ⟨x_v30, x_v31, b8, bl, rfl, dv, b0, bu, ah⟩
         clear cd
         obtain _ | b4 := b4
         ·
          rw [lane_Yard_hardest_l3] at ah; cases ah
         rw [lane_Yard_hardest_l3] at ah
         replace a8 := a8.mono bu
         refine wp_seq (wp_region_from (Rk 0 1 ((tB 43 (decide (x_v30 < ((x30.buses.length : Nat) : Int)))) :: (tI 42 x_v30) :: (K55m17 x30 ab ac x_v21 x34 x_v20 x26 u z x_v10 x17 d e x_v11 a_lanes lanes c_lanes)) dv b0 fun gk br => ?_))
         refine wf (wp_seq (wC (decide (x_v30 < ((x30.buses.length : Nat) : Int))) br (fun bn => ?_) (fun bn => ?_)))
         ·
          rw [bn, cond_true] at ah
          refine wp_skip (wp_seq (wp_block (wp_seq (wp_region_from ?_))))
          obtain ⟨x44, ex44, ah⟩ := bnd ah
          obtain ⟨e9, fe, fm⟩ := idx_some ex44
          obtain ⟨aq, ar, f8, c8, fj, db⟩ := a8.get (by decide) fm
          obtain rfl := fj
          have bh := b0.addPlc (b := aq) (o := ar + (x_v30 : Int).toNat * 1) (cs := [.int .i64 x44]) (fun j c hj => db j _ (map_get hj)) rfl (by kernel_rfl) (by kernel_rfl)
          refine R_index 0 (x_v30) rfl rfl (rfl) rfl (by decide) br (by rfl) (by rfl) (by rfl) c8 (by rfl) e9 fe (by kernel_rfl) fun fx (dw : Kn 64 (K55e14 f g i k l x_v10 x aa ae af x_v20 ag aj aq ar x_v30) ((tP 44 9 0) :: (tB 43 (decide (x_v30 < ((x30.buses.length : Nat) : Int)))) :: (tI 42 x_v30) :: (K55m17 x30 ab ac x_v21 x34 x_v20 x26 u z x_v10 x17 d e x_v11 a_lanes lanes c_lanes)) fx) => ?_
          refine Rk 1 2 ((tI 15 x44) :: (tI 42 x_v30) :: (K55m17 x30 ab ac x_v21 x34 x_v20 x26 u z x_v10 x17 d e x_v11 a_lanes lanes c_lanes)) dw bh fun gl dx => ?_
          refine wf (wp_region_from (Rk 0 3 ((tP 48 8 1) :: (tI 47 x44) :: (tI 46 x44) :: (tI 42 x_v30) :: (K55m17 x30 ab ac x_v21 x34 x_v20 x26 u z x_v10 x17 d e x_v11 a_lanes lanes c_lanes)) dx bh fun gm ci => ?_))
          obtain ⟨x49, ex49, ah⟩ := bnd ah
          obtain ⟨fa, ff⟩ := rng_some ex49
          refine R_one 3 (.one (.c (.ptr 8 (1 + (x44 : Int).toNat * 1)))) rfl (rfl) rfl (run_indexA (E := 3) ci rfl (by kernel_rfl) (by kernel_rfl) (by rfl) (by rfl) fa ff) (ci.put (by decide) _) fun fy (cj : Kn 64 (K55e14 f g i k l x_v10 x aa ae af x_v20 ag aj aq ar x_v30) ((tP 49 8 (1 + (x44 : Int).toNat * 1)) :: (tP 48 8 1) :: (tI 47 x44) :: (tI 46 x44) :: (tI 42 x_v30) :: (K55m17 x30 ab ac x_v21 x34 x_v20 x26 u z x_v10 x17 d e x_v11 a_lanes lanes c_lanes)) fy) => ?_
          obtain ⟨x50, ex50, ah⟩ := bnd ah
          obtain ⟨_, _, fn⟩ := idx_some ex50
          refine R_one 4 (.one (.c (.int .i64 x50))) rfl (rfl) rfl (run_loadAt1 cj bh.plOk rfl (by rfl) rfl (by kernel_rfl) (arr_get (fun (y : Int) => ([.int .i64 y] : List SC)) 1 (fun _ => rfl) [.int .i64 x34.many] [] x34.tm.toL _ _ fn rfl rfl)) (cj.put (by decide) _) fun fz (ck : Kn 64 (K55e14 f g i k l x_v10 x aa ae af x_v20 ag aj aq ar x_v30) ((tI 50 x50) :: (tP 49 8 (1 + (x44 : Int).toNat * 1)) :: (tP 48 8 1) :: (tI 47 x44) :: (tI 46 x44) :: (tI 42 x_v30) :: (K55m17 x30 ab ac x_v21 x34 x_v20 x26 u z x_v10 x17 d e x_v11 a_lanes lanes c_lanes)) fz) => ?_
          obtain ⟨x51, ex51, ah⟩ := bnd ah
          obtain ⟨fb, fg⟩ := rng_some ex51
          refine R_one 5 (.one (.c (.ptr 5 (0 + (x44 : Int).toNat * 1)))) rfl (rfl) rfl (run_indexA (E := 3) ck rfl (by kernel_rfl) (by kernel_rfl) (by rfl) (by rfl) fb fg) (ck.put (by decide) _) fun c1 (dz : Kn 64 (K55e14 f g i k l x_v10 x aa ae af x_v20 ag aj aq ar x_v30) ((tP 51 5 (0 + (x44 : Int).toNat * 1)) :: (tI 50 x50) :: (tP 49 8 (1 + (x44 : Int).toNat * 1)) :: (tP 48 8 1) :: (tI 47 x44) :: (tI 46 x44) :: (tI 42 x_v30) :: (K55m17 x30 ab ac x_v21 x34 x_v20 x26 u z x_v10 x17 d e x_v11 a_lanes lanes c_lanes)) c1) => ?_
          obtain ⟨ao, c3, ah⟩ := bnd ah
          obtain ⟨gb, gc, fo⟩ := Places.setI_some c3
          refine wl fun K hK => ?_
          refine wp_store 5 (0 + (x44 : Int).toNat * 1) (.c (.int .i64 x50)) [.int .i64 ao.a0, .int .i64 ao.a1, .int .i64 ao.a2, .int .i64 ao.a3, .int .i64 ao.a4, .int .i64 ao.a5, .int .i64 ao.a6, .int .i64 ao.a7] dz bh rfl rfl (by rfl) (by rfl) (by rfl) (by kernel_rfl) (by refine decide_eq_true ?_; show (0 + (x44 : Int).toNat * 1) + 1 ≤ 8; omega) (arr_set (fun (y : Int) => ([.int .i64 y] : List SC)) 1 (fun _ => rfl) [] [] x_v31.toL ao.toL (x44 : Int).toNat x50 fo (show (x44 : Int).toNat < 8 by omega) rfl rfl rfl) fun hi d0 cp => hK _ _ ?_
          have d1 : Kn 64 (K55e14 f g i k l x_v10 x aa ae af x_v20 ag aj aq ar x_v30) ((tI 42 x_v30) :: (K55m17 x30 ab ac x_v21 x34 x_v20 x26 u z x_v10 x17 d e x_v11 a_lanes lanes c_lanes)) c1 := d0.kp
          refine wf (wp_region_from (Rk 0 2 ((tI 42 (IntKind.i64.wrap (x_v30 + 1))) :: (K55m17 x30 ab ac x_v21 x34 x_v20 x26 u z x_v10 x17 d e x_v11 a_lanes lanes c_lanes)) d1 cp fun go d2 => ?_))
          refine wf ?_
          exact Exists.intro b4 ⟨Nat.lt_succ_self _, Exists.intro (IntKind.i64.wrap (x_v30 + 1)) ⟨ao, _, _, rfl, ((d2.keep [42, 41, 40, 9, 13, 28, 27, 26, 10, 8, 19, 18, 17, 6, 5, 4, 2, 1] (by rfl)).cut 9 (by kernel_rfl)), (cp.cutPl 9 (by kernel_rfl)), bu, ah⟩⟩
         ·
          rw [bn, cond_false] at ah
          refine wp_exit ?_
          obtain rfl := Option.some.inj ah
          exact Exists.intro _ ⟨_, rfl, br.kp, b0, bu⟩
       ·
        rintro _ hl ⟨b7, bk, rfl, d3, cq, ez⟩
        refine wp_region_from (Rk 0 2 ((tI 28 (IntKind.i64.wrap (x_v20 + 1))) :: (tI 9 (IntKind.i64.wrap (x_v21 + x34.many))) :: (tI 27 ((x26.length : Nat) : Int)) :: (tS 26 u x26.length z) :: (tP 10 5 0) :: (tP 8 4 0) :: (K55m16 x_v10 x17 d e x_v11 a_lanes lanes c_lanes)) d3 cq fun gp d4 => ?_)
        refine wf ?_
        exact Exists.intro bf ⟨Nat.lt_succ_self _, Exists.intro (IntKind.i64.wrap (x_v20 + 1)) ⟨(IntKind.i64.wrap (x_v21 + x34.many)), an, _, _, rfl, ((d4.keep [28, 27, 26, 10, 9, 8, 19, 18, 17, 6, 5, 4, 2, 1] (by rfl)).cut 6 (by kernel_rfl)), (cq.cutPl 6 (by kernel_rfl)), (Heap.le_trans au (Heap.le_trans av ez)), am⟩⟩
      ·
       rw [bm, cond_false] at am
       refine wp_exit ?_
       obtain rfl := Option.some.inj am
       exact Exists.intro _ ⟨_, rfl, bq.kp, bw, au⟩
    ·
     rintro _ hn ⟨b5, bj, rfl, d6, ax, cm⟩
     refine wp_seq (wp_region_from (Rk 0 3 ((tB 56 (decide (ad.1 > x_v11))) :: (tP 10 5 0) :: (tI 9 ad.1) :: (tP 8 4 0) :: (K55m16 x_v10 x17 d e x_v11 a_lanes lanes c_lanes)) d6 ax fun gq bs => ?_))
     refine wf (wC (decide (ad.1 > x_v11)) bs (fun bo => ?_) (fun bo => ?_))
     ·
      rw [bo, cond_true] at ai
      refine wp_region_G (by kernel_rfl) ?_
      replace ax := ax.drew
      refine wpG_of_D [] (K55e3 f g i k l x_v10 x aa) [⟨(K55c2 m y q p s), some 33⟩, ⟨[], some 94⟩, ⟨(K55c7 x_v13), some 74⟩, ⟨(K55c6 x21), none⟩, ⟨(K55c6 x21), some 74⟩, ⟨(K55c11 ad), some 94⟩] ?_
      refine D_run [0, 1, 2] [2, 1, 0] [59, 58, 57, 19, 18, 17, 5, 4, 2, 1] ((tI 59 ad.1) :: (tA 58 (K55c6 x21)) :: (tA 57 (K55c11 ad)) :: (tI 19 x_v10) :: (tI 18 ((x17.length : Nat) : Int)) :: (tS 17 d x17.length e) :: (K55m19 a_lanes lanes c_lanes)) (fun _ _ _ _ _ h => h) bs (PlOk.forget [1] ax.plOk) (by kernel_rfl) (by rfl) (by kernel_rfl) fun gr d7 => ?_
      refine Dl 3 fun K hK => ?_
      refine wst 1 0 (.agg (K55c11 ad)) (K55c11 ad) d7 ax fun ho d8 cr => hK _ _ (PlOk.forget [1] cr.plOk) ?_
      refine D_sync 4 rfl (by kernel_rfl) (by decide) (rfl) (by kernel_rfl) fun K hK => ?_
      refine wst 2 0 (.agg (K55c6 x21)) (K55c6 x21) d8 cr fun hp d9 b1 => hK _ _ ?_
      refine wpG_of_D [] (K55e3 f g i k l x_v10 x aa) [⟨(K55c2 m y q p s), some 33⟩, ⟨[], some 94⟩, ⟨(K55c6 x21), some 74⟩, ⟨(K55c6 x21), none⟩, ⟨(K55c6 x21), some 74⟩, ⟨(K55c11 ad), some 94⟩] ?_
      refine D_run [5] [5, 4, 3, 2, 1, 0] [6, 19, 18, 17, 5, 4, 2, 1] ((tI 6 ad.1) :: (tI 19 x_v10) :: (tI 18 ((x17.length : Nat) : Int)) :: (tS 17 d x17.length e) :: (K55m19 a_lanes lanes c_lanes)) (fun _ _ _ _ _ h => h) d9 (PlOk.forget [1] b1.plOk) (by kernel_rfl) (by rfl) (by kernel_rfl) fun gu ea => ?_
      refine wpD_end (by kernel_rfl) (wp_region_from (Rk 0 2 ((tI 19 (IntKind.i64.wrap (x_v10 + 1))) :: (tI 6 ad.1) :: (tI 18 ((x17.length : Nat) : Int)) :: (tS 17 d x17.length e) :: (K55m19 a_lanes lanes c_lanes)) ea b1 fun gv eb => ?_))
      refine wf ?_
      exact Exists.intro a9 ⟨Nat.lt_succ_self _, Exists.intro (IntKind.i64.wrap (x_v10 + 1)) ⟨ad.1, ad.2, x21, _, _, rfl, ((eb.keep [19, 18, 17, 6, 5, 4, 2, 1] (by rfl)).cut 3 (by kernel_rfl)), (b1.cutPl 3 (by kernel_rfl)), (Heap.le_trans aw (Heap.le_trans az cm)), ai⟩⟩
     ·
      rw [bo, cond_false] at ai
      refine wp_skip (wp_region_from (Rk 0 2 ((tI 19 (IntKind.i64.wrap (x_v10 + 1))) :: (tI 18 ((x17.length : Nat) : Int)) :: (tS 17 d x17.length e) :: (tI 6 x_v11) :: (K55m19 a_lanes lanes c_lanes)) bs ax fun gw ec => ?_))
      refine wf ?_
      exact Exists.intro a9 ⟨Nat.lt_succ_self _, Exists.intro (IntKind.i64.wrap (x_v10 + 1)) ⟨x_v11, x_v12, x_v13, _, _, rfl, ((ec.keep [19, 18, 17, 6, 5, 4, 2, 1] (by rfl)).cut 3 (by kernel_rfl)), (ax.cutPl 3 (by kernel_rfl)), (Heap.le_trans aw (Heap.le_trans az cm)), ai⟩⟩
   ·
    rw [bp, cond_false] at ai
    refine wp_exit ?_
    obtain rfl := Option.some.inj ai
    exact Exists.intro _ ⟨_, rfl, bt.kp, b2, aw⟩
 ·
  rintro _ hq ⟨ca, bg, rfl, ee, ay, cn⟩
  replace ak := ak.mono cn
  replace al := al.mono cn
  refine wp_seq (wp_region_G (by kernel_rfl) ?_)
  replace ay := ay.drew
  refine wpG_of_D [1] [(f, 0), (g, 0), (i, 0)] (K55p15 m y q p s a) ?_
  refine Dr [0, 2] [2, 0] [(tI 63 a.1), (tA 61 (K55c12 a)), (tP 5 2 0), (tP 4 1 0)] ee ay fun gx cl => ?_
  refine D_share (fun W => ∀ a' w', (∃ (b9 : Array Value) (bb : Heap), a' = ⟨b9, []⟩ ∧ Kn 64 [(f, 0), (g, 0), (i, 0)] [(tA 62 (K55c8 a)), (tI 63 a.1), (tP 5 2 0), (tP 4 1 0)] b9 ∧ Mem ⟨w, h, noX⟩ bb [(f, 0), (g, 0), (i, 0)] (K55p15 m y q p s a) [] w' ∧ Heap.le bg bb) → W [(f, 0), (g, 0), (i, 0)] (K55p15 m y q p s a) [1, 3, 2, 0] a' w') ?_ (fun cy => ?_)
  ·
   rintro _ hr ⟨b9, bb, rfl, ef, e5, ga⟩
   refine D_sync 4 rfl (by kernel_rfl) (by decide) (rfl) (by kernel_rfl) fun K hK => ?_
   refine wst 2 0 (.agg (K55c8 a)) (K55c8 a) ef e5 fun hs eg ct => hK _ _ ?_
   refine wpG_of_D [1] [(f, 0), (g, 0), (i, 0)] (K55p15 m y q p s a) ?_
   refine Dr [5] [5, 4, 1, 3, 2, 0] [(tI 6 a.1), (tP 5 2 0), (tP 4 1 0)] eg ct fun gz eh => ?_
   refine wpD_end (by kernel_rfl) (wp_ret ?_)
   obtain rfl := Option.some.inj H
   exact rt (.tup [.agg (K55c12 a), .agg (K55c8 a), .c (.int .i64 a.1)]) eh ct ⟨_, _, _, rfl, ⟨_, rfl, ((rep_pair rep_int (rep_pair rep_int (rep_pair rep_int (rep_pair rep_int (rep_pair rep_int (rep_pair rep_int (rep_pair rep_int rep_int))))))) : rep bb (a.2.1 : Places) _)⟩, ⟨_, rfl, ((rep_pair rep_bool (rep_pair rep_bool (rep_pair rep_bool (rep_pair rep_bool (rep_pair rep_bool (rep_pair rep_bool (rep_pair rep_bool rep_bool))))))) : rep bb (a.2.2 : Some) _)⟩, rfl⟩
  refine D_two 1 3 rfl rfl (by kernel_rfl) (by decide) (rfl) (rfl) (fun K hK => ?_) (fun K hK => ?_)
  ·
   refine wp_quiet cl ay.plOk rfl (by decide) (by kernel_rfl) fun f0 (ei : Kn 64 [(f, 0), (g, 0), (i, 0)] [(tA 62 (K55c8 a)), (tI 63 a.1), (tA 61 (K55c12 a)), (tP 5 2 0), (tP 4 1 0)] f0) => hK _ _ ay.plOk ?_
   refine D_sync 3 rfl (by kernel_rfl) (by decide) (rfl) (by kernel_rfl) fun K hK => ?_
   refine wst 1 0 (.agg (K55c12 a)) (K55c12 a) ei ay fun ht ek e6 => hK _ _ ?_
   refine wpG_of_D [1] [(f, 0), (g, 0), (i, 0)] (K55p15 m y q p s a) ?_
   refine D_perm [1, 3, 2, 0] (by kernel_rfl) (by rfl) (cy _ _ ?_)
   exact Exists.intro _ ⟨_, rfl, ek.kp, e6, (Heap.le_refl _)⟩
  ·
   refine wst 1 0 (.agg (K55c12 a)) (K55c12 a) cl ay fun hu el bi => hK _ _ bi.plOk ?_
   refine Dl 1 fun K hK => ?_
   refine wp_quiet el bi.plOk rfl (by decide) (by kernel_rfl) fun f1 (em : Kn 64 [(f, 0), (g, 0), (i, 0)] [(tA 62 (K55c8 a)), (tI 63 a.1), (tA 61 (K55c12 a)), (tP 5 2 0), (tP 4 1 0)] f1) => hK _ _ bi.plOk ?_
   refine D_perm [1, 3, 2, 0] (by kernel_rfl) (by rfl) (cy _ _ ?_)
   exact Exists.intro _ ⟨_, rfl, em.kp, bi, (Heap.le_refl _)⟩
end Go.Proofs.Ythcbemnflgjadaa
