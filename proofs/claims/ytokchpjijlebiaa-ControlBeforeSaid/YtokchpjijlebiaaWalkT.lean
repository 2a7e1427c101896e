/- Each call computes its plain function: printed by dec.py. -/
import Derived.Test.YtokchpjijlebiaaProg
import Derived.Test.YtokchpjijlebiaaPure
import Derived.Test.YtokchpjijlebiaaWalkR
set_option linter.all false
namespace Go.Proofs.Ytokchpjijlebiaa
open Go Go.RowKit
open Rep (rep)
open KRep (kv)
open VRep (rv)
abbrev K54c1 : List SC := [.slice none 0 0, .slice none 0 0, .slice none 0 0]
abbrev K54c2 (j : Option Addr) (r_ : Route) (m : Nat) (k : Option Addr) (o : Nat) (l : Option Addr) (p : Nat) : List SC := [.slice j r_.legs.length m, .int .i64 r_.turn.lo, .int .i64 r_.turn.hi, .slice k r_.buses.length o, .slice l r_.spares.length p, .int .i64 r_.unit, .int .i64 r_.gap, .int .i64 r_.fr, .int .i64 r_.to_]
abbrev K54c3 (d : Deeds) : List SC := [.int .i64 d.holds.a0, .int .i64 d.holds.a1, .int .i64 d.holds.a2, .int .i64 d.holds.a3, .int .i64 d.turns.a0, .int .i64 d.turns.a1, .int .i64 d.turns.a2, .int .i64 d.turns.a3, .bool d.spares.a0, .bool d.spares.a1]
abbrev K54m4 (a : Nat) (x21 : List Bool) (r_ : Route) (x15 x9 : List Int) : TM := [(tS 21 (some ⟨a, 8, none⟩) x21.length 2), (tI 20 ((r_.spares.length : Nat) : Int)), (tP 17 0 8), (tS 15 (some ⟨a, 4, none⟩) x15.length 4), (tS 9 (some ⟨a, 0, none⟩) x9.length 4), (tP 4 2 0)]
set_option maxRecDepth 100000 in
set_option maxHeartbeats 4000000 in
theorem control_deeds_acts_ok (n : Nat) {h : Heap} {w : World} (hh : Has h w) (d : Deeds) {cs_d : List Value} (hx_d : rep h d cs_d) (r_ : Route) {cs_r_ : List Value} (hx_r_ : rep h r_ cs_r_) {r : Acts} (H : control_deeds_acts n d r_ = some r) :
  Calls Try.prog 54 #[.agg cs_d.toArray, .agg cs_r_.toArray] w (Ret (fun h v => ∃ cs, v = .agg cs.toArray ∧ rep h r cs) h w) := by
 obtain ⟨_, _, rfl, ⟨_, _, rfl, rfl, ⟨_, _, rfl, rfl, ⟨_, _, rfl, rfl, rfl⟩⟩⟩, ⟨_, _, rfl, ⟨_, _, rfl, rfl, ⟨_, _, rfl, rfl, ⟨_, _, rfl, rfl, rfl⟩⟩⟩, ⟨_, _, rfl, rfl, rfl⟩⟩⟩ := hx_d
 obtain ⟨_, _, rfl, ⟨j, m, rfl, ad⟩, ⟨_, _, rfl, ⟨_, _, rfl, rfl, rfl⟩, ⟨_, _, rfl, ⟨k, o, rfl, ae⟩, ⟨_, _, rfl, ⟨l, p, rfl, af⟩, ⟨_, _, rfl, rfl, ⟨_, _, rfl, rfl, ⟨_, _, rfl, rfl, rfl⟩⟩⟩⟩⟩⟩⟩ := hx_r_
 refine enter 24 [.agg (K54c3 d), .agg (K54c2 j r_ m k o l p)] Try.func54 rfl rfl rfl rfl fun t hk => ?_
 have hm := Mem.begin h w hh
 unfold control_deeds_acts at H
 refine wp_seq (wp_region_from (wpFrom_loud _ rfl (rfl) fun K hK => ?_))
 refine wp_box (.agg (K54c3 d)) hk hm rfl rfl (by decide) (by kernel_rfl) (by kernel_rfl) (by kernel_rfl) fun a b6 cf (bg : Kn 24 [(a, 0)] [(tP 2 0 0), (tA 0 (K54c3 d)), (tA 1 (K54c2 j r_ m k o l p))] b6) (bv : Mem ⟨w, h, noX⟩ h [(a, 0)] [⟨(K54c3 d), some 102⟩] [] cf) => hK _ _ ?_
 refine wpFrom_loud _ rfl (rfl) fun K hK => ?_
 refine wp_box (.agg (K54c2 j r_ m k o l p)) bg bv rfl rfl (by decide) (by kernel_rfl) (by kernel_rfl) (by kernel_rfl) fun f b7 cg (bh : Kn 24 [(a, 0), (f, 0)] [(tP 3 1 0), (tP 2 0 0), (tA 0 (K54c3 d)), (tA 1 (K54c2 j r_ m k o l p))] b7) (bw : Mem ⟨w, h, noX⟩ h [(a, 0), (f, 0)] [⟨(K54c3 d), some 102⟩, ⟨(K54c2 j r_ m k o l p), some 43⟩] [] cg) => hK _ _ ?_
 refine wpFrom_loud _ rfl (rfl) fun K hK => ?_
 refine wp_alloc K54c1 bh bw rfl rfl (by decide) (by kernel_rfl) (by kernel_rfl) (by kernel_rfl) fun g a7 a8 (bi : Kn 24 [(a, 0), (f, 0), (g, 0)] [(tP 4 2 0), (tP 3 1 0), (tP 2 0 0), (tA 0 (K54c3 d)), (tA 1 (K54c2 j r_ m k o l p))] a7) (an : Mem ⟨w, h, noX⟩ h [(a, 0), (f, 0), (g, 0)] [⟨(K54c3 d), some 102⟩, ⟨(K54c2 j r_ m k o l p), some 43⟩, ⟨K54c1, some 34⟩] [] a8) => hK _ _ ?_
 have bj : Kn 24 [(a, 0), (f, 0), (g, 0)] [(tP 4 2 0), (tP 3 1 0), (tP 2 0 0)] a7 := bi.keep [4, 3, 2] (by rfl)
 refine wpFrom_end (by decide) (wp_seq (wp_region_G (by kernel_rfl) ?_))
 replace an := an.drew
 refine wpG_of_D [] [(a, 0), (f, 0), (g, 0)] [⟨(K54c3 d), some 102⟩, ⟨(K54c2 j r_ m k o l p), some 43⟩, ⟨K54c1, some 34⟩] ?_
 refine D_run [0, 1, 2, 3] [3, 2, 1, 0] [8, 5, 4, 3, 2] [(tI 8 ((r_.buses.length : Nat) : Int)), (tP 5 0 0), (tP 4 2 0), (tP 3 1 0), (tP 2 0 0)] (fun _ _ _ _ _ h => h) bj an.plOk (by kernel_rfl) (by rfl) (by kernel_rfl) fun ck bk => ?_
 obtain ⟨b, ao, aw, z⟩ := an.settlePlc (i := 0) rfl
 replace ad := ad.mono ao
 replace ae := ae.mono ao
 replace af := af.mono ao
 replace z : Mem ⟨w, h, noX⟩ b [(a, 0), (f, 0), (g, 0)] [⟨(K54c3 d), none⟩, ⟨(K54c2 j r_ m k o l p), some 43⟩, ⟨K54c1, some 34⟩] [] (World.drew a8) := z
 have al : BoxS b a (d : Deeds) := BoxS.of (e := [(a, 0), (f, 0), (g, 0)]) (cs := (K54c3 d)) ((rep_pair (rep_pair rep_int (rep_pair rep_int (rep_pair rep_int rep_int))) (rep_pair (rep_pair rep_int (rep_pair rep_int (rep_pair rep_int rep_int))) (rep_pair rep_bool rep_bool))) : rep b (d : Deeds) _) rfl aw
 have x : CellsAt b a [.int .i64 d.holds.a0, .int .i64 d.holds.a1, .int .i64 d.holds.a2, .int .i64 d.holds.a3, .int .i64 d.turns.a0, .int .i64 d.turns.a1, .int .i64 d.turns.a2, .int .i64 d.turns.a3, .bool d.spares.a0, .bool d.spares.a1] := CellsAt.of (e := [(a, 0), (f, 0), (g, 0)]) (cs := [.int .i64 d.holds.a0, .int .i64 d.holds.a1, .int .i64 d.holds.a2, .int .i64 d.holds.a3, .int .i64 d.turns.a0, .int .i64 d.turns.a1, .int .i64 d.turns.a2, .int .i64 d.turns.a3, .bool d.spares.a0, .bool d.spares.a1]) rfl aw
 refine D_ext (e' := [(a, 0), (f, 0), (g, 0)]) (pl' := [⟨(K54c3 d), none⟩, ⟨(K54c2 j r_ m k o l p), some 43⟩, ⟨K54c1, some 34⟩]) (fun _ hp => PlOk.same hp rfl) ?_
 obtain ⟨x9, ex9, H⟩ := bnd H
 obtain ⟨b2, ax, a4⟩ := takeA_some ex9
 have bc : Cells b ([d.holds.a0, d.holds.a1, d.holds.a2, d.holds.a3] : List Int) [.int .i64 d.holds.a0, .int .i64 d.holds.a1, .int .i64 d.holds.a2, .int .i64 d.holds.a3] := ⟨_, _, rfl, (rep_int : rep b (d.holds.a0 : Int) _), ⟨_, _, rfl, (rep_int : rep b (d.holds.a1 : Int) _), ⟨_, _, rfl, (rep_int : rep b (d.holds.a2 : Int) _), ⟨_, _, rfl, (rep_int : rep b (d.holds.a3 : Int) _), rfl⟩⟩⟩⟩
 have ai : RepS b (some ⟨a, 0, none⟩) 4 x9 := by rw [a4]; exact RepS.ofBox 0 4 1 rfl bc x rfl rfl _
 have bz : (((r_.buses.length : Nat) : Int) : Int).toNat = x9.length := by rw [a4, List.length_take]; simp at ax ⊢; omega
 refine D_sliceA (E := 3) 4 1 _ ⟨a, 0, none⟩ (fun _ _ _ _ _ h => h) bk rfl rfl (rfl) rfl (by decide) (by kernel_rfl) (by kernel_rfl) z.plOk (by rfl) (by rfl) (by kernel_rfl) (by kernel_rfl) b2 ax rfl bz fun b8 (bl : Kn 24 [(a, 0), (f, 0), (g, 0)] [(tS 9 (some ⟨a, 0, none⟩) x9.length 4), (tI 8 ((r_.buses.length : Nat) : Int)), (tP 5 0 0), (tP 4 2 0), (tP 3 1 0), (tP 2 0 0)] b8) => ?_
 refine D_run [6, 7, 8, 9] [9, 8, 7, 6, 4, 3, 2, 1, 0] [14, 11, 9, 4, 3, 2] [(tI 14 ((r_.buses.length : Nat) : Int)), (tP 11 0 4), (tS 9 (some ⟨a, 0, none⟩) x9.length 4), (tP 4 2 0), (tP 3 1 0), (tP 2 0 0)] (fun _ _ _ _ _ h => h) bl z.plOk (by kernel_rfl) (by rfl) (by kernel_rfl) fun cl bm => ?_
 obtain ⟨x15, ex15, H⟩ := bnd H
 obtain ⟨b3, ay, a5⟩ := takeA_some ex15
 have bd : Cells b ([d.turns.a0, d.turns.a1, d.turns.a2, d.turns.a3] : List Int) [.int .i64 d.turns.a0, .int .i64 d.turns.a1, .int .i64 d.turns.a2, .int .i64 d.turns.a3] := ⟨_, _, rfl, (rep_int : rep b (d.turns.a0 : Int) _), ⟨_, _, rfl, (rep_int : rep b (d.turns.a1 : Int) _), ⟨_, _, rfl, (rep_int : rep b (d.turns.a2 : Int) _), ⟨_, _, rfl, (rep_int : rep b (d.turns.a3 : Int) _), rfl⟩⟩⟩⟩
 have aj : RepS b (some ⟨a, 4, none⟩) 4 x15 := by rw [a5]; exact RepS.ofBox 4 4 1 rfl bd x rfl rfl _
 have b0 : (((r_.buses.length : Nat) : Int) : Int).toNat = x15.length := by rw [a5, List.length_take]; simp at ay ⊢; omega
 refine D_sliceA (E := 3) 10 1 _ ⟨a, 4, none⟩ (fun _ _ _ _ _ h => h) bm rfl rfl (rfl) rfl (by decide) (by kernel_rfl) (by kernel_rfl) z.plOk (by rfl) (by rfl) (by kernel_rfl) (by kernel_rfl) b3 ay rfl b0 fun b9 (bn : Kn 24 [(a, 0), (f, 0), (g, 0)] [(tS 15 (some ⟨a, 4, none⟩) x15.length 4), (tI 14 ((r_.buses.length : Nat) : Int)), (tP 11 0 4), (tS 9 (some ⟨a, 0, none⟩) x9.length 4), (tP 4 2 0), (tP 3 1 0), (tP 2 0 0)] b9) => ?_
 refine D_run [12, 13, 14, 15] [15, 14, 13, 12, 10, 9, 8, 7, 6, 4, 3, 2, 1, 0] [20, 17, 15, 9, 4] [(tI 20 ((r_.spares.length : Nat) : Int)), (tP 17 0 8), (tS 15 (some ⟨a, 4, none⟩) x15.length 4), (tS 9 (some ⟨a, 0, none⟩) x9.length 4), (tP 4 2 0)] (fun _ _ _ _ _ h => h) bn z.plOk (by kernel_rfl) (by rfl) (by kernel_rfl) fun cm bo => ?_
 obtain ⟨x21, ex21, H⟩ := bnd H
 obtain ⟨b4, az, a6⟩ := takeA_some ex21
 have be : Cells b ([d.spares.a0, d.spares.a1] : List Bool) [.bool d.spares.a0, .bool d.spares.a1] := ⟨_, _, rfl, (rep_bool : rep b (d.spares.a0 : Bool) _), ⟨_, _, rfl, (rep_bool : rep b (d.spares.a1 : Bool) _), rfl⟩⟩
 have ak : RepS b (some ⟨a, 8, none⟩) 2 x21 := by rw [a6]; exact RepS.ofBox 8 2 1 rfl be x rfl rfl _
 have b1 : (((r_.spares.length : Nat) : Int) : Int).toNat = x21.length := by rw [a6, List.length_take]; simp at az ⊢; omega
 refine D_sliceA (E := 4) 16 1 _ ⟨a, 8, none⟩ (fun _ _ _ _ _ h => h) bo rfl rfl (rfl) rfl (by decide) (by kernel_rfl) (by kernel_rfl) z.plOk (by rfl) (by rfl) (by kernel_rfl) (by kernel_rfl) b4 az rfl b1 fun ca (bp : Kn 24 [(a, 0), (f, 0), (g, 0)] (K54m4 a x21 r_ x15 x9) ca) => ?_
 obtain ⟨x10, ex10, H⟩ := bnd H
 refine D_loud 5 rfl (by kernel_rfl) (by decide) (rfl) fun K hK => ?_
 refine wp_call [.c (.slice (some ⟨a, 0, none⟩) x9.length 4)] _ bp z rfl rfl (by decide) (by rfl) rfl (fun _ _ => by kernel_rfl) (slices_Clone_int_int_ok n z.has x9 ai ex10) fun cn ci cq a9 ac ap => ?_
 replace ad := ad.mono ac
 replace ae := ae.mono ac
 replace af := af.mono ac
 replace al := al.mono ac
 replace x := x.mono ac
 replace ai := ai.mono ac
 replace aj := aj.mono ac
 replace ak := ak.mono ac
 obtain ⟨s, u, rfl, am⟩ := a9
 refine ⟨.one (.c (.slice s x10.length u)), rfl, fun cb (bq : Kn 24 [(a, 0), (f, 0), (g, 0)] ((tS 10 s x10.length u) :: (K54m4 a x21 r_ x15 x9)) cb) => hK _ _ ap.plOk ?_⟩
 obtain ⟨x16, ex16, H⟩ := bnd H
 refine D_loud 11 rfl (by kernel_rfl) (by decide) (rfl) fun K hK => ?_
 refine wp_call [.c (.slice (some ⟨a, 4, none⟩) x15.length 4)] _ bq ap rfl rfl (by decide) (by rfl) rfl (fun _ _ => by kernel_rfl) (slices_Clone_int_int_ok n ap.has x15 aj ex16) fun co cj cr ba y aq => ?_
 replace ad := ad.mono y
 replace ae := ae.mono y
 replace af := af.mono y
 replace al := al.mono y
 replace x := x.mono y
 replace ai := ai.mono y
 replace aj := aj.mono y
 replace ak := ak.mono y
 replace am := am.mono y
 obtain ⟨aa, ab, rfl, au⟩ := ba
 refine ⟨.one (.c (.slice aa x16.length ab)), rfl, fun cc (br : Kn 24 [(a, 0), (f, 0), (g, 0)] ((tS 16 aa x16.length ab) :: (tS 10 s x10.length u) :: (K54m4 a x21 r_ x15 x9)) cc) => hK _ _ aq.plOk ?_⟩
 obtain ⟨x22, ex22, H⟩ := bnd H
 refine D_loud 17 rfl (by kernel_rfl) (by decide) (rfl) fun K hK => ?_
 refine wp_call [.c (.slice (some ⟨a, 8, none⟩) x21.length 2)] _ br aq rfl rfl (by decide) (by rfl) rfl (fun _ _ => by kernel_rfl) (slices_Clone_bool_bool_ok n aq.has x21 ak ex22) fun cp av ct bb q ar => ?_
 replace ad := ad.mono q
 replace ae := ae.mono q
 replace af := af.mono q
 replace al := al.mono q
 replace x := x.mono q
 replace ai := ai.mono q
 replace aj := aj.mono q
 replace ak := ak.mono q
 replace am := am.mono q
 replace au := au.mono q
 obtain ⟨ag, ah, rfl, b5⟩ := bb
 refine ⟨.one (.c (.slice ag x22.length ah)), rfl, fun cd (bs : Kn 24 [(a, 0), (f, 0), (g, 0)] ((tS 22 ag x22.length ah) :: (tS 16 aa x16.length ab) :: (tS 10 s x10.length u) :: (K54m4 a x21 r_ x15 x9)) cd) => hK _ _ ar.plOk ?_⟩
 refine D_run [18] [18, 17, 11, 5, 16, 15, 14, 13, 12, 10, 9, 8, 7, 6, 4, 3, 2, 1, 0] [23, 4] [(tA 23 [.slice s x10.length u, .slice aa x16.length ab, .slice ag x22.length ah]), (tP 4 2 0)] (fun _ _ _ _ _ h => h) bs ar.plOk (by kernel_rfl) (by rfl) (by kernel_rfl) fun ce bt => ?_
 refine D_sync 19 rfl (by kernel_rfl) (by decide) (rfl) (by kernel_rfl) fun K hK => ?_
 refine wp_store 2 0 (.agg [.slice s x10.length u, .slice aa x16.length ab, .slice ag x22.length ah]) [.slice s x10.length u, .slice aa x16.length ab, .slice ag x22.length ah] bt ar rfl rfl (by rfl) (by rfl) (by rfl) (by kernel_rfl) (by kernel_rfl) (by rfl) fun ch bu (bx : Mem ⟨w, h, noX⟩ av [(a, 0), (f, 0), (g, 0)] [⟨(K54c3 d), none⟩, ⟨(K54c2 j r_ m k o l p), some 43⟩, ⟨[.slice s x10.length u, .slice aa x16.length ab, .slice ag x22.length ah], some 34⟩] [] ch) => hK _ _ ?_
 have bf : Kn 24 [(a, 0), (f, 0), (g, 0)] [(tP 4 2 0)] ce := bu.keep [4] (by rfl)
 refine wpG_end (by kernel_rfl) (wp_ret ?_)
 obtain rfl := Option.some.inj H
 exact ret_ok (.one (.agg [.slice s x10.length u, .slice aa x16.length ab, .slice ag x22.length ah])) bf bx (by kernel_rfl) ⟨_, rfl, ((rep_pair (rep_slice am) (rep_pair (rep_slice au) (rep_slice b5))) : rep av ((Acts.mk x10 x16 x22) : Acts) _)⟩
end Go.Proofs.Ytokchpjijlebiaa
