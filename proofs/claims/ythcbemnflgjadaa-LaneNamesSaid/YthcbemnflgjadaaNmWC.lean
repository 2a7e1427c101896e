/- Each call computes its plain function. -/
import Derived.Test.YthcbemnflgjadaaProg
import Derived.Shelf.Small.Bits
import Derived.Test.YthcbemnflgjadaaNmP0
import Derived.Test.YthcbemnflgjadaaNmS6
set_option linter.all false
namespace Go.Proofs.Ythcbemnflgjadaa
open Go Go.RowKit
open Rep (rep)
open KRep (kv)
open VRep (rv)
abbrev K99m1 (x_v11 : Int) (a_data : Option Addr) (data : List Int) (c_data : Nat) (a b : Int) (fn_cmp : Fn) (fa_cmp fc_cmp : Array Value) : TM := [(tI 8 x_v11), (tS 0 a_data data.length c_data), (tI 1 a), (tI 2 b), (3, .one (.c (.func fn_cmp fa_cmp fc_cmp)))]
abbrev K99m2 (x_v21 : Int) (a_data : Option Addr) (data : List Int) (c_data : Nat) (x_v11 a b : Int) (fn_cmp : Fn) (fa_cmp fc_cmp : Array Value) : TM := (tI 41 (IntKind.i64.wrap (x_v21 - 1))) :: (tS 39 a_data data.length c_data) :: (tI 38 x_v21) :: (tS 37 a_data data.length c_data) :: (tI 9 x_v21) :: (K99m1 x_v11 a_data data c_data a b fn_cmp fa_cmp fc_cmp)
abbrev K99m3 (fn_cmp : Fn) (fa_cmp fc_cmp : Array Value) (x_v21 x_v11 : Int) (a_data : Option Addr) (data : List Int) (c_data : Nat) (a b : Int) : TM := (22, .one (.c (.func fn_cmp fa_cmp fc_cmp))) :: (tB 21 true) :: (tI 9 x_v21) :: (K99m1 x_v11 a_data data c_data a b fn_cmp fa_cmp fc_cmp)
set_option maxRecDepth 100000 in
set_option maxHeartbeats 4000000 in
theorem slices_insertionSortCmpFunc_int_ok (n : Nat) {F : Fr} {h : Heap} {w : World} (data : List Int) {a_data : Option Addr} {c_data : Nat} {vs_data : List Value} (hc_data : Cells h data vs_data) (a : Int) (b : Int) (cmp : Int → Int → Option Int) {fn_cmp : Fn} {fa_cmp fc_cmp : Array Value} (hf_cmp : Fn3 h (.func fn_cmp fa_cmp fc_cmp) cmp) (hm : Mem F h [] [] [⟨a_data, data.length, c_data, 3, 1, vs_data, 0⟩] w) {r : List Int} (H : slices_insertionSortCmpFunc_int n data a b cmp = some r) :
  Calls Try.prog 99 #[.slice a_data data.length c_data, .int .i64 a, .int .i64 b, .func fn_cmp fa_cmp fc_cmp] w (RetM fun v w' => ∃ (h' : Heap) (cp : List Value), Heap.le h h' ∧ (v = .tuple #[]) ∧ r.length = data.length ∧ Cells h' r cp ∧ Mem F h' [] [] [⟨a_data, data.length, c_data, 3, 1, cp, 0⟩] w') := by
 refine enter' (e := []) 53 [.c (.slice a_data data.length c_data), .c (.int .i64 a), .c (.int .i64 b), .c (.func fn_cmp fa_cmp fc_cmp)] Try.func99 rfl rfl rfl rfl fun t hk => ?_
 unfold slices_insertionSortCmpFunc_int at H
 refine wp_seq (wp_region_from (Rk 0 3 [(tI 8 (IntKind.i64.wrap (a + 1))), (tS 0 a_data data.length c_data), (tI 1 a), (tI 2 b), (3, .one (.c (.func fn_cmp fa_cmp fc_cmp)))] hk hm fun e5 di => ?_))
 refine wf ?_
 obtain ⟨be, bl, H⟩ := bnd H
 refine wp_mid' (fun a' w' => ∃ (ay : List Value) (bf : Array Value) (ag : Heap), a' = ⟨bf, []⟩ ∧ Kn 53 [] [] bf ∧ Mem F ag [] [] [⟨a_data, data.length, c_data, 3, 1, ay, 0⟩] w' ∧ Heap.le h ag ∧ Cells ag be ay ∧ be.length = data.length) ?_ ?_
 ·
  refine wp_block ?_
  refine wp_loop_n (fun ei a' w' => ∃ (x_v10 : List Int) (x_v11 : Int) (am : List Value) (bg : Array Value) (ab : Heap), a' = ⟨bg, []⟩ ∧ Kn 53 [] (K99m1 x_v11 a_data data c_data a b fn_cmp fa_cmp fc_cmp) bg ∧ Mem F ab [] [] [⟨a_data, data.length, c_data, 3, 1, am, 0⟩] w' ∧ Heap.le h ab ∧ Cells ab x_v10 am ∧ x_v10.length = data.length ∧ slices_insertionSortCmpFunc_int_l1 ei a b cmp x_v10 x_v11 = some be) n ?_ ?_
  ·
   exact Exists.intro data ⟨(IntKind.i64.wrap (a + 1)), vs_data, _, _, rfl, di.kp, hm, (Heap.le_refl _), hc_data, rfl, bl⟩
  ·
   rintro av _ fl ⟨x_v10, x_v11, am, bg, ab, rfl, df, au, ba, bq, bv, m⟩
   clear bl
   obtain _ | av := av
   ·
    rw [slices_insertionSortCmpFunc_int_l1] at m; cases m
   rw [slices_insertionSortCmpFunc_int_l1] at m
   replace hf_cmp := hf_cmp.mono ba
   refine wp_seq (wp_seq (wp_region_from (Rk 0 3 ((tB 14 (decide (x_v11 < b))) :: (K99m1 x_v11 a_data data c_data a b fn_cmp fa_cmp fc_cmp)) df au fun fc a6 => ?_)))
   refine wf (wC (decide (x_v11 < b)) a6 (fun a3 => ?_) (fun a3 => ?_))
   ·
    rw [a3, cond_true] at m
    refine wp_skip (wp_seq (wp_block (wp_seq (wp_region_from (Rk 0 2 ((tI 9 x_v11) :: (K99m1 x_v11 a_data data c_data a b fn_cmp fa_cmp fc_cmp)) a6 au fun fd dj => ?_)))))
    refine wf ?_
    obtain ⟨aw, bm, m⟩ := bnd m
    refine wp_mid' (fun a' w' => ∃ (ax : List Value) (bh : Array Value) (ao : Heap), a' = ⟨bh, []⟩ ∧ Kn 53 [] (K99m1 x_v11 a_data data c_data a b fn_cmp fa_cmp fc_cmp) bh ∧ Mem F ao [] [] [⟨a_data, data.length, c_data, 3, 1, ax, 0⟩] w' ∧ Heap.le ab ao ∧ Cells ao aw ax ∧ aw.length = data.length) ?_ ?_
    ·
     refine wp_block ?_
     refine wp_loop_n (fun ej a' w' => ∃ (x_v20 : List Int) (x_v21 : Int) (d : List Value) (bi : Array Value) (ah : Heap), a' = ⟨bi, []⟩ ∧ Kn 53 [] ((tI 9 x_v21) :: (K99m1 x_v11 a_data data c_data a b fn_cmp fa_cmp fc_cmp)) bi ∧ Mem F ah [] [] [⟨a_data, data.length, c_data, 3, 1, d, 0⟩] w' ∧ Heap.le ab ah ∧ Cells ah x_v20 d ∧ x_v20.length = data.length ∧ slices_insertionSortCmpFunc_int_l2 ej a cmp x_v20 x_v21 = some aw) av ?_ ?_
     ·
      exact Exists.intro x_v10 ⟨x_v11, am, _, _, rfl, dj.kp, au, (Heap.le_refl _), bq, bv, bm⟩
     ·
      rintro bd _ fp ⟨x_v20, x_v21, d, bi, ah, rfl, dk, p, bb, g, x, f⟩
      clear bm
      obtain _ | bd := bd
      ·
       rw [slices_insertionSortCmpFunc_int_l2] at f; cases f
      rw [slices_insertionSortCmpFunc_int_l2] at f
      replace hf_cmp := hf_cmp.mono bb
      refine wp_seq (wp_seq ?_)
      obtain ⟨cl, l, f⟩ := bnd f
      refine wp_mid' (fun a' w' => ∃ (bj : Array Value) (u : Heap), a' = ⟨bj, []⟩ ∧ Kn 53 [] [(tI 9 x_v21), (tI 8 x_v11), (tS 0 a_data data.length c_data), (tI 1 a), (tI 2 b), (3, .one (.c (.func fn_cmp fa_cmp fc_cmp))), (tB 34 cl)] bj ∧ Mem F u [] [] [⟨a_data, data.length, c_data, 3, 1, d, 0⟩] w' ∧ Heap.le ah u) ?_ ?_
      ·
       refine wp_region_G (by kernel_rfl) ?_
       replace p := p.drew
       refine wpG_of_D [] [] [] ?_
       refine Dr [0, 1, 2, 3] (dn 3) ((tB 21 (decide (x_v21 > a))) :: (tI 9 x_v21) :: (K99m1 x_v11 a_data data c_data a b fn_cmp fa_cmp fc_cmp)) dk p fun cn br => ?_
       rcases Bool.eq_false_or_eq_true (decide (x_v21 > a)) with aj | aj
       ·
        rw [aj, cond_true] at l
        have dl : Kn 53 [] ((tB 21 true) :: (tI 9 x_v21) :: (K99m1 x_v11 a_data data c_data a b fn_cmp fa_cmp fc_cmp)) cn := (br.setB 21 true (by rfl) aj).kp
        refine Dr [4, 5, 6] (dn 6) ((tI 24 x_v21) :: (tS 23 a_data data.length c_data) :: (K99m3 fn_cmp fa_cmp fc_cmp x_v21 x_v11 a_data data c_data a b)) dl p fun fe bs => ?_
        obtain ⟨x25, ex25, l⟩ := bnd l
        obtain ⟨b5, cf, eg⟩ := idx_some ex25
        have dw := lt_of_idx b5 cf
        obtain ⟨ev, ea, c0⟩ := cells_get (sz := 1) rfl g eg
        obtain rfl := ea
        obtain ⟨an, ac⟩ := row_addr p (i := 0) rfl (b0 := 0 + (x_v21 : Int).toNat * 1) (Nat.lt_of_lt_of_le (Nat.lt_add_of_pos_right (by decide)) (cells_fit (sz := 1) rfl g dw))
        have ae := p.addPlc (b := an) (o := 0 + (x_v21 : Int).toNat * 1) (cs := []) (fun j c hj => by simp at hj) rfl (by kernel_rfl) (by kernel_rfl)
        have ak : ∀ (e : Env) k c, ([.int .i64 x25] : List SC)[k]? = some c → (d)[0 + (x_v21 : Int).toNat * 1 + k]? = some (c.den e) := fun e k c hk => c0 k _ (map_get hk)
        have cg := cf
        rw [x] at cg
        refine D_index 7 (x_v21) [.int .i64 x25] (fun _ _ _ _ _ h => h) rfl rfl (wantedS_sound bs (by kernel_rfl)) rfl (by decide) (by kernel_rfl) (by kernel_rfl) bs p.plOk (by rfl) (by rfl) (by rfl) ac (by rfl) b5 cg (by kernel_rfl) fun en (dm : Kn 53 [(an, 0 + (x_v21 : Int).toNat * 1)] ((tP 25 0 0) :: (tI 24 x_v21) :: (tS 23 a_data data.length c_data) :: (K99m3 fn_cmp fa_cmp fc_cmp x_v21 x_v11 a_data data c_data a b)) en) => ?_
        refine D_run [8, 9, 10, 11] [11, 10, 9, 8, 7, 6, 5, 4, 3, 2, 1, 0] [29, 27, 26, 22, 21, 9, 8, 0, 1, 2, 3] ((tI 29 (IntKind.i64.wrap (x_v21 - 1))) :: (tS 27 a_data data.length c_data) :: (tI 26 x25) :: (K99m3 fn_cmp fa_cmp fc_cmp x_v21 x_v11 a_data data c_data a b)) (fun _ _ _ _ _ h => h) dm (PlOk.peek ae.plOk ae 0 0 rfl rfl ac [.int .i64 x25] (ak _)) (by kernel_rfl) (by rfl) (by kernel_rfl) fun ff bt => ?_
        obtain ⟨x30, ex30, l⟩ := bnd l
        obtain ⟨b6, ch, eh⟩ := idx_some ex30
        have dx := lt_of_idx b6 ch
        obtain ⟨ew, eb, c1⟩ := cells_get (sz := 1) rfl g eh
        obtain rfl := eb
        obtain ⟨a0, ap⟩ := row_addr ae (i := 0) rfl (b0 := 0 + (IntKind.i64.wrap (x_v21 - 1) : Int).toNat * 1) (Nat.lt_of_lt_of_le (Nat.lt_add_of_pos_right (by decide)) (cells_fit (sz := 1) rfl g dx))
        have al := ae.addPlc (b := a0) (o := 0 + (IntKind.i64.wrap (x_v21 - 1) : Int).toNat * 1) (cs := []) (fun j c hj => by simp at hj) rfl (by kernel_rfl) (by kernel_rfl)
        have a4 : ∀ (e : Env) k c, ([.int .i64 x30] : List SC)[k]? = some c → (d)[0 + (IntKind.i64.wrap (x_v21 - 1) : Int).toNat * 1 + k]? = some (c.den e) := fun e k c hk => c1 k _ (map_get hk)
        have ci := ch
        rw [x] at ci
        refine D_index 12 (IntKind.i64.wrap (x_v21 - 1)) [.int .i64 x30] (fun _ _ _ _ _ h => h) rfl rfl (wantedS_sound bt (by kernel_rfl)) rfl (by decide) (by kernel_rfl) (by kernel_rfl) bt (PlOk.peek ae.plOk ae 0 0 rfl rfl ac [.int .i64 x25] (ak _)) (by rfl) (by rfl) (by rfl) ap (by rfl) b6 ci (by kernel_rfl) fun eo (dp : Kn 53 [(an, 0 + (x_v21 : Int).toNat * 1), (a0, 0 + (IntKind.i64.wrap (x_v21 - 1) : Int).toNat * 1)] ((tP 30 1 0) :: (tI 29 (IntKind.i64.wrap (x_v21 - 1))) :: (tS 27 a_data data.length c_data) :: (tI 26 x25) :: (K99m3 fn_cmp fa_cmp fc_cmp x_v21 x_v11 a_data data c_data a b)) eo) => ?_
        refine D_run [13] [13, 12, 11, 10, 9, 8, 7, 6, 5, 4, 3, 2, 1, 0] [31, 26, 22, 21, 9, 8, 0, 1, 2, 3] ((tI 31 x30) :: (tI 26 x25) :: (K99m3 fn_cmp fa_cmp fc_cmp x_v21 x_v11 a_data data c_data a b)) (fun _ _ _ _ _ h => h) dp (PlOk.peek (PlOk.peek al.plOk al 0 0 rfl rfl ac [.int .i64 x25] (ak _)) al 0 1 rfl rfl ap [.int .i64 x30] (a4 _)) (by kernel_rfl) (by rfl) (by kernel_rfl) fun fg bu => ?_
        obtain ⟨x32, ex32, l⟩ := bnd l
        refine D_loud 14 rfl (by kernel_rfl) (by decide) (wantedS_sound bu (by kernel_rfl)) fun K hK => ?_
        refine wp_callV (.func fn_cmp fa_cmp fc_cmp) [.c (.int .i64 x25), .c (.int .i64 x30)] _ bu al rfl rfl (by decide) (by rfl) (by rfl) rfl (hf_cmp _ _ (Heap.le_refl _) al.has x25 x30 _ ex32) fun fi ex fq ct d1 z => ?_
        obtain rfl := ct
        refine ⟨.one (.c (.int .i64 x32)), rfl, fun ep (dq : Kn 53 [(an, 0 + (x_v21 : Int).toNat * 1), (a0, 0 + (IntKind.i64.wrap (x_v21 - 1) : Int).toNat * 1)] ((tI 32 x32) :: (tI 31 x30) :: (tI 26 x25) :: (K99m3 fn_cmp fa_cmp fc_cmp x_v21 x_v11 a_data data c_data a b)) ep) => hK _ _ (PlOk.peek (PlOk.peek z.plOk z 0 0 rfl rfl ac [.int .i64 x25] (ak _)) z 0 1 rfl rfl ap [.int .i64 x30] (a4 _)) ?_⟩
        refine D_run [15, 16] [16, 15, 14, 13, 12, 11, 10, 9, 8, 7, 6, 5, 4, 3, 2, 1, 0] [34, 9, 8, 0, 1, 2, 3] ((tB 34 (decide (x32 < 0))) :: (tI 9 x_v21) :: (K99m1 x_v11 a_data data c_data a b fn_cmp fa_cmp fc_cmp)) (fun _ _ _ _ _ h => h) dq (PlOk.peek (PlOk.peek z.plOk z 0 0 rfl rfl ac [.int .i64 x25] (ak _)) z 0 1 rfl rfl ap [.int .i64 x30] (a4 _)) (by kernel_rfl) (by rfl) (by kernel_rfl) fun fh dr => ?_
        refine wpD_end (by kernel_rfl) ?_
        obtain rfl := Option.some.inj l
        exact Exists.intro _ ⟨_, rfl, ((dr.keep [9, 8, 0, 1, 2, 3, 34] (by rfl)).cut 0 (by kernel_rfl)), (z.cutPl 0 (by kernel_rfl)), d1⟩
       ·
        rw [aj, cond_false] at l
        have ds : Kn 53 [] ((tB 21 false) :: (tI 9 x_v21) :: (K99m1 x_v11 a_data data c_data a b fn_cmp fa_cmp fc_cmp)) cn := (br.setB 21 false (by rfl) aj).kp
        refine Dr [4, 5, 6, 7, 8, 9, 10, 11, 12, 13, 14, 15, 16] (dn 16) ((tB 34 false) :: (tI 9 x_v21) :: (K99m1 x_v11 a_data data c_data a b fn_cmp fa_cmp fc_cmp)) ds p fun e6 c3 => ?_
        refine wpD_end (by kernel_rfl) ?_
        obtain rfl := Option.some.inj l
        exact Exists.intro _ ⟨_, rfl, c3.kp, p, (Heap.le_refl _)⟩
      ·
       rintro _ fj ⟨bj, u, rfl, a5, y, a9⟩
       replace g := g.mono a9
       refine wC (cl) a5 (fun a2 => ?_) (fun a2 => ?_)
       ·
        rw [cond_t a2] at f
        refine wp_skip (wp_seq (wp_block (wp_region_G (by kernel_rfl) ?_)))
        replace y := y.drew
        refine wpG_of_D [] [] [] ?_
        refine Dr [0, 1, 2, 3, 4, 5, 6, 7] (dn 7) ((tI 44 (IntKind.i64.wrap (x_v21 - 1))) :: (tS 42 a_data data.length c_data) :: (K99m2 x_v21 a_data data c_data x_v11 a b fn_cmp fa_cmp fc_cmp)) a5 y fun e7 c4 => ?_
        obtain ⟨x45, ex45, f⟩ := bnd f
        obtain ⟨b1, b7, ec⟩ := idx_some ex45
        have dt := lt_of_idx b1 b7
        obtain ⟨er, d6, cu⟩ := cells_get (sz := 1) rfl g ec
        obtain rfl := d6
        obtain ⟨s, ai⟩ := row_addr y (i := 0) rfl (b0 := 0 + (IntKind.i64.wrap (x_v21 - 1) : Int).toNat * 1) (Nat.lt_of_lt_of_le (Nat.lt_add_of_pos_right (by decide)) (cells_fit (sz := 1) rfl g dt))
        have ad := y.addPlc (b := s) (o := 0 + (IntKind.i64.wrap (x_v21 - 1) : Int).toNat * 1) (cs := []) (fun j c hj => by simp at hj) rfl (by kernel_rfl) (by kernel_rfl)
        have aq : ∀ (e : Env) k c, ([.int .i64 x45] : List SC)[k]? = some c → (d)[0 + (IntKind.i64.wrap (x_v21 - 1) : Int).toNat * 1 + k]? = some (c.den e) := fun e k c hk => cu k _ (map_get hk)
        have b8 := b7
        rw [x] at b8
        refine D_index 8 (IntKind.i64.wrap (x_v21 - 1)) [.int .i64 x45] (fun _ _ _ _ _ h => h) rfl rfl (rfl) rfl (by decide) (by kernel_rfl) (by kernel_rfl) c4 y.plOk (by rfl) (by rfl) (by rfl) ai (by rfl) b1 b8 (by kernel_rfl) fun ek (c5 : Kn 53 [(s, 0 + (IntKind.i64.wrap (x_v21 - 1) : Int).toNat * 1)] ((tP 45 0 0) :: (tI 44 (IntKind.i64.wrap (x_v21 - 1))) :: (tS 42 a_data data.length c_data) :: (K99m2 x_v21 a_data data c_data x_v11 a b fn_cmp fa_cmp fc_cmp)) ek) => ?_
        refine D_run [9, 10, 11] [11, 10, 9, 8, 7, 6, 5, 4, 3, 2, 1, 0] [48, 47, 46, 41, 39, 38, 37, 9, 8, 0, 1, 2, 3] ((tI 48 x_v21) :: (tS 47 a_data data.length c_data) :: (tI 46 x45) :: (K99m2 x_v21 a_data data c_data x_v11 a b fn_cmp fa_cmp fc_cmp)) (fun _ _ _ _ _ h => h) c5 (PlOk.peek ad.plOk ad 0 0 rfl rfl ai [.int .i64 x45] (aq _)) (by kernel_rfl) (by rfl) (by kernel_rfl) fun e8 c6 => ?_
        obtain ⟨x49, ex49, f⟩ := bnd f
        obtain ⟨b2, b9, ed⟩ := idx_some ex49
        have du := lt_of_idx b2 b9
        obtain ⟨es, d7, cv⟩ := cells_get (sz := 1) rfl g ed
        obtain rfl := d7
        obtain ⟨aa, a1⟩ := row_addr ad (i := 0) rfl (b0 := 0 + (x_v21 : Int).toNat * 1) (Nat.lt_of_lt_of_le (Nat.lt_add_of_pos_right (by decide)) (cells_fit (sz := 1) rfl g du))
        have q := ad.addPlc (b := aa) (o := 0 + (x_v21 : Int).toNat * 1) (cs := []) (fun j c hj => by simp at hj) rfl (by kernel_rfl) (by kernel_rfl)
        have bp : ∀ (e : Env) k c, ([.int .i64 x49] : List SC)[k]? = some c → (d)[0 + (x_v21 : Int).toNat * 1 + k]? = some (c.den e) := fun e k c hk => cv k _ (map_get hk)
        have ca := b9
        rw [x] at ca
        refine D_index 12 (x_v21) [.int .i64 x49] (fun _ _ _ _ _ h => h) rfl rfl (rfl) rfl (by decide) (by kernel_rfl) (by kernel_rfl) c6 (PlOk.peek ad.plOk ad 0 0 rfl rfl ai [.int .i64 x45] (aq _)) (by rfl) (by rfl) (by rfl) a1 (by rfl) b2 ca (by kernel_rfl) fun el (c7 : Kn 53 [(s, 0 + (IntKind.i64.wrap (x_v21 - 1) : Int).toNat * 1), (aa, 0 + (x_v21 : Int).toNat * 1)] ((tP 49 1 0) :: (tI 48 x_v21) :: (tS 47 a_data data.length c_data) :: (tI 46 x45) :: (K99m2 x_v21 a_data data c_data x_v11 a b fn_cmp fa_cmp fc_cmp)) el) => ?_
        refine D_run [13] [13, 12, 11, 10, 9, 8, 7, 6, 5, 4, 3, 2, 1, 0] [50, 46, 41, 39, 38, 37, 9, 8, 0, 1, 2, 3] ((tI 50 x49) :: (tI 46 x45) :: (K99m2 x_v21 a_data data c_data x_v11 a b fn_cmp fa_cmp fc_cmp)) (fun _ _ _ _ _ h => h) c7 (PlOk.peek (PlOk.peek q.plOk q 0 0 rfl rfl ai [.int .i64 x45] (aq _)) q 0 1 rfl rfl a1 [.int .i64 x49] (bp _)) (by kernel_rfl) (by rfl) (by kernel_rfl) fun e9 c8 => ?_
        obtain ⟨x51, ex51, f⟩ := bnd f
        obtain ⟨b3, cb, ee⟩ := idx_some ex51
        have a7 := lt_of_idx b3 cb
        obtain ⟨et, d8, cw⟩ := cells_get (sz := 1) rfl g ee
        obtain rfl := d8
        obtain ⟨af, bn⟩ := row_addr q (i := 0) rfl (b0 := 0 + (x_v21 : Int).toNat * 1) (Nat.lt_of_lt_of_le (Nat.lt_add_of_pos_right (by decide)) (cells_fit (sz := 1) rfl g a7))
        have d2 := q.addPlc (b := af) (o := 0 + (x_v21 : Int).toNat * 1) (cs := []) (fun j c hj => by simp at hj) rfl (by kernel_rfl) (by kernel_rfl)
        have ey : ∀ (e : Env) k c, ([.int .i64 x51] : List SC)[k]? = some c → (d)[0 + (x_v21 : Int).toNat * 1 + k]? = some (c.den e) := fun e k c hk => cw k _ (map_get hk)
        have cc := cb
        rw [x] at cc
        refine D_index 14 (x_v21) [.int .i64 x51] (fun _ _ _ _ _ h => h) rfl rfl (rfl) rfl (by decide) (by kernel_rfl) (by kernel_rfl) c8 (PlOk.peek (PlOk.peek q.plOk q 0 0 rfl rfl ai [.int .i64 x45] (aq _)) q 0 1 rfl rfl a1 [.int .i64 x49] (bp _)) (by rfl) (by rfl) (by rfl) bn (by rfl) b3 cc (by kernel_rfl) fun em (c9 : Kn 53 [(s, 0 + (IntKind.i64.wrap (x_v21 - 1) : Int).toNat * 1), (aa, 0 + (x_v21 : Int).toNat * 1), (af, 0 + (x_v21 : Int).toNat * 1)] ((tP 51 2 0) :: (tI 50 x49) :: (tI 46 x45) :: (K99m2 x_v21 a_data data c_data x_v11 a b fn_cmp fa_cmp fc_cmp)) em) => ?_
        obtain ⟨co, cq, f⟩ := bnd f
        obtain ⟨e1, e3, cj⟩ := upd_some cq
        refine D_sync 15 rfl (by kernel_rfl) (by decide) (rfl) (by kernel_rfl) fun K hK => ?_
        refine wp_storeRow 0 2 0 (0 + (x_v21 : Int).toNat * 1) (.c (.int .i64 x45)) c9 d2 rfl rfl (by rfl) (by rfl) rfl rfl bn rfl (by kernel_rfl) (cells_fit (sz := 1) rfl g a7) fun fk da bc => ?_
        have ar : Cells u co (d.take (0 + (x_v21 : Int).toNat * 1 + 0) ++ ([.int .i64 x45] : List Value) ++ d.drop (0 + (x_v21 : Int).toNat * 1 + 0 + 1)) := by rw [cj]; exact cells_set (sz := 1) rfl g a7 (rep_int : rep u (x45 : Int) _)
        have bz : co.length = data.length := by rw [cj]; simp [x]
        refine hK _ _ ?_
        refine wpG_of_D [] [(s, 0 + (IntKind.i64.wrap (x_v21 - 1) : Int).toNat * 1), (aa, 0 + (x_v21 : Int).toNat * 1), (af, 0 + (x_v21 : Int).toNat * 1)] [⟨[], none⟩, ⟨[], none⟩, ⟨[], none⟩] ?_
        obtain ⟨x52, ex52, f⟩ := bnd f
        obtain ⟨b4, cd, ef⟩ := idx_some ex52
        have a8 := lt_of_idx b4 cd
        obtain ⟨eu, d9, cx⟩ := cells_get (sz := 1) rfl ar ef
        obtain rfl := d9
        obtain ⟨az, bo⟩ := row_addr bc (i := 0) rfl (b0 := 0 + (IntKind.i64.wrap (x_v21 - 1) : Int).toNat * 1) (Nat.lt_of_lt_of_le (Nat.lt_add_of_pos_right (by decide)) (cells_fit (sz := 1) rfl ar a8))
        have d3 := bc.addPlc (b := az) (o := 0 + (IntKind.i64.wrap (x_v21 - 1) : Int).toNat * 1) (cs := []) (fun j c hj => by simp at hj) rfl (by kernel_rfl) (by kernel_rfl)
        have ez : ∀ (e : Env) k c, ([.int .i64 x52] : List SC)[k]? = some c → ((d.take (0 + (x_v21 : Int).toNat * 1 + 0) ++ ([.int .i64 x45] : List Value) ++ d.drop (0 + (x_v21 : Int).toNat * 1 + 0 + 1)))[0 + (IntKind.i64.wrap (x_v21 - 1) : Int).toNat * 1 + k]? = some (c.den e) := fun e k c hk => cx k _ (map_get hk)
        have ce := cd
        rw [bz] at ce
        refine D_index 16 (IntKind.i64.wrap (x_v21 - 1)) [.int .i64 x52] (fun _ _ _ _ _ h => h) rfl rfl (rfl) rfl (by decide) (by kernel_rfl) (by kernel_rfl) da bc.plOk (by rfl) (by rfl) (by rfl) bo (by rfl) b4 ce (by kernel_rfl) fun cm (db : Kn 53 [(s, 0 + (IntKind.i64.wrap (x_v21 - 1) : Int).toNat * 1), (aa, 0 + (x_v21 : Int).toNat * 1), (af, 0 + (x_v21 : Int).toNat * 1), (az, 0 + (IntKind.i64.wrap (x_v21 - 1) : Int).toNat * 1)] ((tP 52 3 0) :: (tP 51 2 0) :: (tI 50 x49) :: (tI 46 x45) :: (K99m2 x_v21 a_data data c_data x_v11 a b fn_cmp fa_cmp fc_cmp)) cm) => ?_
        obtain ⟨bk, cr, f⟩ := bnd f
        obtain ⟨e2, e4, ck⟩ := upd_some cr
        refine D_sync 17 rfl (by kernel_rfl) (by decide) (rfl) (by kernel_rfl) fun K hK => ?_
        refine wp_storeRow 0 3 0 (0 + (IntKind.i64.wrap (x_v21 - 1) : Int).toNat * 1) (.c (.int .i64 x49)) db d3 rfl rfl (by rfl) (by rfl) rfl rfl bo rfl (by kernel_rfl) (cells_fit (sz := 1) rfl ar a8) fun fm dc bw => ?_
        have cy : Cells u bk ((d.take (0 + (x_v21 : Int).toNat * 1 + 0) ++ ([.int .i64 x45] : List Value) ++ d.drop (0 + (x_v21 : Int).toNat * 1 + 0 + 1)).take (0 + (IntKind.i64.wrap (x_v21 - 1) : Int).toNat * 1 + 0) ++ ([.int .i64 x49] : List Value) ++ (d.take (0 + (x_v21 : Int).toNat * 1 + 0) ++ ([.int .i64 x45] : List Value) ++ d.drop (0 + (x_v21 : Int).toNat * 1 + 0 + 1)).drop (0 + (IntKind.i64.wrap (x_v21 - 1) : Int).toNat * 1 + 0 + 1)) := by rw [ck]; exact cells_set (sz := 1) rfl ar a8 (rep_int : rep u (x49 : Int) _)
        have d5 : bk.length = data.length := by rw [ck]; simp [bz]
        refine hK _ _ ?_
        have dd : Kn 53 [(s, 0 + (IntKind.i64.wrap (x_v21 - 1) : Int).toNat * 1), (aa, 0 + (x_v21 : Int).toNat * 1), (af, 0 + (x_v21 : Int).toNat * 1), (az, 0 + (IntKind.i64.wrap (x_v21 - 1) : Int).toNat * 1)] ((tI 9 x_v21) :: (K99m1 x_v11 a_data data c_data a b fn_cmp fa_cmp fc_cmp)) cm := dc.kp
        refine wpG_end (by kernel_rfl) (wp_region_from (Rk 0 3 ((tI 9 (IntKind.i64.wrap (x_v21 - 1))) :: (K99m1 x_v11 a_data data c_data a b fn_cmp fa_cmp fc_cmp)) dd bw fun fa de => ?_))
        refine wf ?_
        exact Exists.intro bd ⟨Nat.lt_succ_self _, Exists.intro bk ⟨(IntKind.i64.wrap (x_v21 - 1)), ((d.take (0 + (x_v21 : Int).toNat * 1 + 0) ++ ([.int .i64 x45] : List Value) ++ d.drop (0 + (x_v21 : Int).toNat * 1 + 0 + 1)).take (0 + (IntKind.i64.wrap (x_v21 - 1) : Int).toNat * 1 + 0) ++ ([.int .i64 x49] : List Value) ++ (d.take (0 + (x_v21 : Int).toNat * 1 + 0) ++ ([.int .i64 x45] : List Value) ++ d.drop (0 + (x_v21 : Int).toNat * 1 + 0 + 1)).drop (0 + (IntKind.i64.wrap (x_v21 - 1) : Int).toNat * 1 + 0 + 1)), _, _, rfl, ((de.keep [9, 8, 0, 1, 2, 3] (by rfl)).cut 0 (by kernel_rfl)), (bw.cutPl 0 (by kernel_rfl)), (Heap.le_trans bb a9), cy, d5, f⟩⟩
       ·
        rw [cond_f a2] at f
        refine wp_exit ?_
        obtain rfl := Option.some.inj f
        exact Exists.intro d ⟨_, _, rfl, a5.kp, y, (Heap.le_trans bb a9), g, x⟩
    ·
     rintro _ fn ⟨ax, bh, ao, rfl, dg, bx, dz, cz, dv⟩
     refine wp_region_from (Rk 0 3 [(tI 8 (IntKind.i64.wrap (x_v11 + 1))), (tS 0 a_data data.length c_data), (tI 1 a), (tI 2 b), (3, .one (.c (.func fn_cmp fa_cmp fc_cmp)))] dg bx fun fb dh => ?_)
     refine wf ?_
     exact Exists.intro av ⟨Nat.lt_succ_self _, Exists.intro aw ⟨(IntKind.i64.wrap (x_v11 + 1)), ax, _, _, rfl, dh.kp, bx, (Heap.le_trans ba dz), cz, dv, m⟩⟩
   ·
    rw [a3, cond_false] at m
    refine wp_exit ?_
    obtain rfl := Option.some.inj m
    exact Exists.intro am ⟨_, _, rfl, a6.kp, au, ba, bq, bv⟩
 ·
  rintro _ fo ⟨ay, bf, ag, rfl, e0, d4, d0, c2, dy⟩
  obtain rfl := Option.some.inj H
  exact endM_of rfl ⟨ag, ay, d0, rfl, dy, c2, ((d4.cutRw 1).cutPl 0 (by kernel_rfl))⟩
theorem math_bits_Len_ok (n : Nat) {h : Heap} {w : World} (hh : Has h w) (x : IK .u64) {r : Int} (H : math_bits_Len n x = some r) :
    Calls Try.prog 68 #[.int .u64 x.n] w (Ret (fun h v => v = .int .i64 r) h w) := by
  unfold math_bits_Len at H
  split at H
  · rename_i h0
    cases H
    refine (Any.bits_Len (P := Try.prog) (ρ := Try.laysSort_ren) { Try.laysSort with } x.n w h0.1 h0.2).mono ?_
    rintro e w' ⟨rfl, rfl⟩
    exact ⟨_, h, rfl, Below.refl _ _, Heap.le_refl _, fun _ _ _ hx => .inl hx, rfl⟩
  · cases H
abbrev K78m1 (a_data : Option Addr) (data : List Int) (c_data : Nat) (a b limit : Int) (fn_cmp : Fn) (fa_cmp fc_cmp : Array Value) : TM := [(tB 10 true), (tS 0 a_data data.length c_data), (tI 1 a), (tI 2 b), (tI 3 limit), (4, .one (.c (.func fn_cmp fa_cmp fc_cmp)))]
set_option maxRecDepth 100000 in
set_option maxHeartbeats 4000000 in
theorem slices_pdqsortCmpFunc_int_rec (n : Nat) : ∀ (F : Fr) (h : Heap) (w : World) (data : List Int) (a_data : Option Addr) (c_data : Nat) (vs_data : List Value) (hc_data : Cells h data vs_data) (a : Int) (b : Int) (limit : Int) (cmp : Int → Int → Option Int) (fn_cmp : Fn) (fa_cmp fc_cmp : Array Value) (hf_cmp : Fn3 h (.func fn_cmp fa_cmp fc_cmp) cmp) (hm : Mem F h [] [] [⟨a_data, data.length, c_data, 3, 1, vs_data, 0⟩] w) (r : List Int) (H : slices_pdqsortCmpFunc_int n data a b limit cmp = some r),
  Calls Try.prog 78 #[.slice a_data data.length c_data, .int .i64 a, .int .i64 b, .int .i64 limit, .func fn_cmp fa_cmp fc_cmp] w (RetM fun v w' => ∃ (h' : Heap) (g : List Value), Heap.le h h' ∧ (v = .tuple #[]) ∧ r.length = data.length ∧ Cells h' r g ∧ Mem F h' [] [] [⟨a_data, data.length, c_data, 3, 1, g, 0⟩] w') := by
 induction n using Nat.strongRecOn with
 | _ n ih =>
  intro F h w data a_data c_data vs_data hc_data a b limit cmp fn_cmp fa_cmp fc_cmp hf_cmp hm r H
  obtain _ | n := n
  ·
   rw [slices_pdqsortCmpFunc_int] at H; cases H
  refine enter' (e := []) 148 [.c (.slice a_data data.length c_data), .c (.int .i64 a), .c (.int .i64 b), .c (.int .i64 limit), .c (.func fn_cmp fa_cmp fc_cmp)] Try.func78 rfl rfl rfl rfl fun t hk => ?_
  rw [slices_pdqsortCmpFunc_int] at H
  refine wp_seq (wp_region_from (Rk 0 1 (K78m1 a_data data c_data a b limit fn_cmp fa_cmp fc_cmp) hk hm fun a4 al => ?_))
  refine wf (wp_seq (wp_region_from (Rk 0 1 ((tB 11 true) :: (K78m1 a_data data c_data a b limit fn_cmp fa_cmp fc_cmp)) al hm fun a8 ao => ?_)))
  refine wf ?_
  obtain ⟨af, z, H⟩ := bnd H
  refine wp_mid' (fun a' w' => ∃ (ag : Unit) (x : Array Value) (i : Heap), a' = ⟨x, []⟩ ∧ Kn 148 [] ((tB 11 true) :: (K78m1 a_data data c_data a b limit fn_cmp fa_cmp fc_cmp)) x ∧ Mem F i [] [] [⟨a_data, data.length, c_data, 3, 1, vs_data, 0⟩] w' ∧ Heap.le h i ∧ af = .go ag) ?_ ?_
  ·
   refine wp_block ?_
   refine wp_loop_n (fun ae a' w' => ∃ (u : Array Value) (k : Heap), a' = ⟨u, []⟩ ∧ Kn 148 [] ((tB 11 true) :: (K78m1 a_data data c_data a b limit fn_cmp fa_cmp fc_cmp)) u ∧ Mem F k [] [] [⟨a_data, data.length, c_data, 3, 1, vs_data, 0⟩] w' ∧ Heap.le h k ∧ ae ≤ n ∧ slices_pdqsortCmpFunc_int_l1 ae data a b limit cmp = some af) n ?_ ?_
   ·
    exact Exists.intro _ ⟨_, rfl, ao.kp, hm, (Heap.le_refl _), Nat.le_refl _, z⟩
   ·
    rintro s _ bc ⟨u, k, rfl, ak, f, q, a3, d⟩
    clear z
    obtain _ | s := s
    ·
     rw [slices_pdqsortCmpFunc_int_l1] at d; cases d
    rw [slices_pdqsortCmpFunc_int_l1] at d
    replace hf_cmp := hf_cmp.mono q
    replace hc_data := hc_data.mono q
    refine wp_block (wp_seq (wp_region_from (Rk 0 4 ((tI 12 (IntKind.i64.wrap (b - a))) :: (tB 11 true) :: (K78m1 a_data data c_data a b limit fn_cmp fa_cmp fc_cmp)) ak f fun a5 am => ?_)))
    refine wf (wp_seq (wp_seq (wp_region_from (Rk 0 2 ((tB 25 (decide ((IntKind.i64.wrap (b - a)) ≤ 12))) :: (tI 12 (IntKind.i64.wrap (b - a))) :: (tB 11 true) :: (K78m1 a_data data c_data a b limit fn_cmp fa_cmp fc_cmp)) am f fun a6 p => ?_))))
    refine wf (wC (decide ((IntKind.i64.wrap (b - a)) ≤ 12)) p (fun l => ?_) (fun l => ?_))
    ·
     rw [l, cond_true] at d
     refine wp_seq (wp_region_from (Rk 0 4 [(29, .one (.c (.func fn_cmp fa_cmp fc_cmp))), (tI 28 b), (tI 27 a), (tS 26 a_data data.length c_data)] p f fun a7 an => ?_))
     obtain ⟨x30, ex30, d⟩ := bnd d
     obtain ⟨a0, a1, au, ay⟩ := f.lend0 [] [0] (by kernel_rfl) (by kernel_rfl) (by kernel_rfl) (by kernel_rfl)
     refine wl fun K hK => ?_
     refine wp_callM [.c (.slice a_data data.length c_data), .c (.int .i64 a), .c (.int .i64 b), .c (.func fn_cmp fa_cmp fc_cmp)] _ an rfl rfl (by decide) (by rfl) rfl (fun _ _ => by kernel_rfl) (slices_insertionSortCmpFunc_int_ok s data hc_data a b cmp hf_cmp au ex30) fun bb az ai => ?_
     obtain ⟨aa, y, ac, rfl, ax, aj, av⟩ := ai
     have j := ay _ _ _ [⟨a_data, data.length, c_data, 3, 1, y, 0⟩] ac rfl (Nat.le_of_ble_eq_true rfl) (by kernel_rfl) av
     replace j : Mem F aa [] [] [⟨a_data, data.length, c_data, 3, 1, y, 0⟩] az := j
     refine ⟨.tup [], rfl, fun ah (ap : Kn 148 [] [(30, .tup []), (29, .one (.c (.func fn_cmp fa_cmp fc_cmp))), (tI 28 b), (tI 27 a), (tS 26 a_data data.length c_data)] ah) => hK _ _ ?_⟩
     have aq : Kn 148 [] [] ah := ap.kp
     refine wf (wp_ret ?_)
     obtain rfl := Option.some.inj d
     obtain rfl := Option.some.inj H
     exact retM_of (.tup []) aq j (by kernel_rfl) ⟨aa, y, (Heap.le_trans q ac), rfl, ax, aj, ((j.cutRw 1).cutPl 0 (by kernel_rfl))⟩
    ·
     rw [l, cond_false] at d
     refine wp_skip (wp_seq (wp_seq (wp_region_from (Rk 0 2 ((tB 32 (limit == 0)) :: (tI 12 (IntKind.i64.wrap (b - a))) :: (tB 11 true) :: (K78m1 a_data data c_data a b limit fn_cmp fa_cmp fc_cmp)) p f fun a9 ab => ?_))))
     refine wf (wC ((limit == 0)) ab (fun m => ?_) (fun m => ?_))
     ·
      rw [m, cond_true] at d
      refine wp_seq ?_
      cases d
     ·
      rw [m, cond_false] at d
      refine wp_skip (wp_seq (wp_seq (wp_region_from (Rk 0 2 ((tB 39 (!true)) :: (tI 12 (IntKind.i64.wrap (b - a))) :: (tB 11 true) :: (K78m1 a_data data c_data a b limit fn_cmp fa_cmp fc_cmp)) ab f fun ba ar => ?_))))
      refine wf (wC ((!true)) ar (fun o => ?_) (fun o => ?_))
      ·
       rw [o, cond_true] at d
       refine wp_seq ?_
       cases d
      ·
       rw [o, cond_false] at d
       refine wp_skip (wp_seq ?_)
       cases d
  ·
   rintro _ bd ⟨ag, x, i, rfl, a2, aw, ad, rfl⟩
   rw [Ex.bind_go] at H
   replace hc_data := hc_data.mono ad
   obtain rfl := Option.some.inj H
   exact endM_of rfl ⟨i, vs_data, ad, rfl, rfl, hc_data, ((aw.cutRw 1).cutPl 0 (by kernel_rfl))⟩
theorem slices_pdqsortCmpFunc_int_ok (n : Nat) {F : Fr} {h : Heap} {w : World} (data : List Int) {a_data : Option Addr} {c_data : Nat} {vs_data : List Value} (hc_data : Cells h data vs_data) (a : Int) (b : Int) (limit : Int) (cmp : Int → Int → Option Int) {fn_cmp : Fn} {fa_cmp fc_cmp : Array Value} (hf_cmp : Fn3 h (.func fn_cmp fa_cmp fc_cmp) cmp) (hm : Mem F h [] [] [⟨a_data, data.length, c_data, 3, 1, vs_data, 0⟩] w) {r : List Int} (H : slices_pdqsortCmpFunc_int n data a b limit cmp = some r) :
  Calls Try.prog 78 #[.slice a_data data.length c_data, .int .i64 a, .int .i64 b, .int .i64 limit, .func fn_cmp fa_cmp fc_cmp] w (RetM fun v w' => ∃ (h' : Heap) (g : List Value), Heap.le h h' ∧ (v = .tuple #[]) ∧ r.length = data.length ∧ Cells h' r g ∧ Mem F h' [] [] [⟨a_data, data.length, c_data, 3, 1, g, 0⟩] w') := slices_pdqsortCmpFunc_int_rec n F h w data a_data c_data vs_data hc_data a b limit cmp fn_cmp fa_cmp fc_cmp hf_cmp hm r H
set_option maxRecDepth 100000 in
set_option maxHeartbeats 4000000 in
theorem slices_SortFunc_int_int_ok (n : Nat) {F : Fr} {h : Heap} {w : World} (x : List Int) {a_x : Option Addr} {c_x : Nat} {vs_x : List Value} (hc_x : Cells h x vs_x) (cmp : Int → Int → Option Int) {fn_cmp : Fn} {fa_cmp fc_cmp : Array Value} (hf_cmp : Fn3 h (.func fn_cmp fa_cmp fc_cmp) cmp) (hm : Mem F h [] [] [⟨a_x, x.length, c_x, 3, 1, vs_x, 0⟩] w) {r : List Int} (H : slices_SortFunc_int_int n x cmp = some r) :
  Calls Try.prog 57 #[.slice a_x x.length c_x, .func fn_cmp fa_cmp fc_cmp] w (RetM fun v w' => ∃ (h' : Heap) (k : List Value), Heap.le h h' ∧ (v = .tuple #[]) ∧ r.length = x.length ∧ Cells h' r k ∧ Mem F h' [] [] [⟨a_x, x.length, c_x, 3, 1, k, 0⟩] w') := by
 refine enter' (e := []) 14 [.c (.slice a_x x.length c_x), .c (.func fn_cmp fa_cmp fc_cmp)] Try.func57 rfl rfl rfl rfl fun t hk => ?_
 unfold slices_SortFunc_int_int at H
 refine wp_seq (wp_region_from (Rk 0 3 [(tI 4 ((x.length : Nat) : Int)), (tS 0 a_x x.length c_x), (1, .one (.c (.func fn_cmp fa_cmp fc_cmp)))] hk hm fun aj s => ?_))
 refine wf (wp_region_from (Rk 0 4 [(10, .one (.c (.int .u64 (IntKind.u64.wrap ((x.length : Nat) : Int))))), (tI 8 ((x.length : Nat) : Int)), (tS 7 a_x x.length c_x), (1, .one (.c (.func fn_cmp fa_cmp fc_cmp)))] s hm fun al y => ?_))
 obtain ⟨x11, ex11, H⟩ := bnd H
 refine wl fun K hK => ?_
 refine wc [.c (.int .u64 (IntKind.u64.wrap ((x.length : Nat) : Int)))] y hm (math_bits_Len_ok n hm.has (IK.mk (IntKind.u64.wrap ((x.length : Nat) : Int))) ex11) fun an ah ao l a i => ?_
 replace hf_cmp := hf_cmp.mono a
 replace hc_x := hc_x.mono a
 obtain rfl := l
 refine ⟨.one (.c (.int .i64 x11)), rfl, fun ad (p : Kn 14 [] [(tI 11 x11), (10, .one (.c (.int .u64 (IntKind.u64.wrap ((x.length : Nat) : Int))))), (tI 8 ((x.length : Nat) : Int)), (tS 7 a_x x.length c_x), (1, .one (.c (.func fn_cmp fa_cmp fc_cmp)))] ad) => hK _ _ ?_⟩
 refine Rk 5 1 [(12, .one (.c (.func fn_cmp fa_cmp fc_cmp))), (tI 11 x11), (tI 8 ((x.length : Nat) : Int)), (tS 7 a_x x.length c_x)] p i fun ak q => ?_
 obtain ⟨x13, ex13, H⟩ := bnd H
 obtain ⟨af, ag, z, ac⟩ := i.lend0 [] [0] (by kernel_rfl) (by kernel_rfl) (by kernel_rfl) (by kernel_rfl)
 refine wl fun K hK => ?_
 refine wp_callM [.c (.slice a_x x.length c_x), .c (.int .i64 0), .c (.int .i64 ((x.length : Nat) : Int)), .c (.int .i64 x11), .c (.func fn_cmp fa_cmp fc_cmp)] _ q rfl rfl (by decide) (by rfl) rfl (fun _ _ => by kernel_rfl) (slices_pdqsortCmpFunc_int_ok n x hc_x 0 ((x.length : Nat) : Int) x11 cmp hf_cmp z ex13) fun am ae m => ?_
 obtain ⟨f, d, g, rfl, ab, o, aa⟩ := m
 have b := ac _ _ _ [⟨a_x, x.length, c_x, 3, 1, d, 0⟩] g rfl (Nat.le_of_ble_eq_true rfl) (by kernel_rfl) aa
 replace b : Mem F f [] [] [⟨a_x, x.length, c_x, 3, 1, d, 0⟩] ae := b
 refine ⟨.tup [], rfl, fun j (u : Kn 14 [] [(13, .tup []), (12, .one (.c (.func fn_cmp fa_cmp fc_cmp))), (tI 11 x11), (tI 8 ((x.length : Nat) : Int)), (tS 7 a_x x.length c_x)] j) => hK _ _ ?_⟩
 have ai : Kn 14 [] [] j := u.kp
 refine wf ?_
 obtain rfl := Option.some.inj H
 exact endM_of rfl ⟨f, d, (Heap.le_trans a g), rfl, ab, o, ((b.cutRw 1).cutPl 0 (by kernel_rfl))⟩
set_option maxRecDepth 100000 in
set_option maxHeartbeats 4000000 in
theorem lane_Yard_turns_1_ok (n : Nat) {h : Heap} {w : World} (hh : Has h w) (a : Int) (b : Int) (q0 : Yard) {b_q0 : Nat} (hb_q0 : BoxS h b_q0 q0) {r : Int} (H : lane_Yard_turns_1 n a b q0 = some r) :
  Calls Try.prog 80 #[.int .i64 a, .int .i64 b, .pointer (some ⟨b_q0, 0, none⟩)] w (Ret (fun h v => v = .int .i64 r) h w) := by
 obtain ⟨_, hx_q0, hc_q0⟩ := id hb_q0
 obtain ⟨_, _, rfl, ⟨g, k, rfl, av⟩, ⟨_, _, rfl, ⟨d, f, rfl, s⟩, rfl⟩⟩ := hx_q0
 refine enter' (e := [(b_q0, 0)]) 19 [.c (.int .i64 a), .c (.int .i64 b), .c (.ptr 0 0)] Try.func80 rfl rfl rfl rfl fun t hk => ?_
 have hm := Mem.begin h w hh
 replace hm := hm.addPlc (o := 0) (cs := [.slice g q0.room.length k, .slice d q0.buses.length f, .int .i64 q0.broken]) (fun j c hj => by rw [Nat.zero_add]; exact hc_q0 j _ (map_get hj)) rfl (by kernel_rfl) (by kernel_rfl)
 replace hm : Mem ⟨w, h, noX⟩ h [(b_q0, 0)] [⟨[.slice g q0.room.length k, .slice d q0.buses.length f, .int .i64 q0.broken], none⟩] [] w := hm
 unfold lane_Yard_turns_1 at H
 refine wp_seq (wp_region_from (Rk 0 1 [(tI 0 a), (tI 1 b), (tP 2 0 0)] hk hm fun ay ag => ?_))
 refine wf (wp_seq (wp_region_G (by kernel_rfl) ?_))
 replace hm := hm.drew
 refine wpG_of_D [] [(b_q0, 0)] [⟨[.slice g q0.room.length k, .slice d q0.buses.length f, .int .i64 q0.broken], none⟩] ?_
 refine Dr [0, 1, 2] [2, 1, 0] [(tI 8 a), (tS 7 d q0.buses.length f), (tI 1 b), (tP 2 0 0)] ag hm fun az ab => ?_
 obtain ⟨x9, ex9, H⟩ := bnd H
 obtain ⟨ah, aj, an⟩ := idx_some ex9
 obtain ⟨i, m, ar, x, al, z⟩ := s.get (by decide) an
 obtain ⟨_, _, rfl, rfl, ⟨_, _, rfl, rfl, rfl⟩⟩ := al
 have l := hm.addPlc (b := i) (o := m + (a : Int).toNat * 3) (cs := [.int .i64 x9.lo, .int .i64 x9.hi, .int .i64 x9.turn]) (fun j c hj => z j _ (map_get hj)) rfl (by kernel_rfl) (by kernel_rfl)
 refine D_index 3 (a) [.int .i64 x9.lo, .int .i64 x9.hi, .int .i64 x9.turn] (fun _ _ _ _ _ h => h) rfl rfl (rfl) rfl (by decide) (by kernel_rfl) (by kernel_rfl) ab hm.plOk (by rfl) (by rfl) (by rfl) x (by rfl) ah aj (by kernel_rfl) fun ap (ac : Kn 19 [(b_q0, 0), (i, m + (a : Int).toNat * 3)] [(tP 9 1 0), (tI 8 a), (tS 7 d q0.buses.length f), (tI 1 b), (tP 2 0 0)] ap) => ?_
 refine Dr [4, 5, 6, 7, 8] (dn 8) [(tI 14 b), (tS 13 d q0.buses.length f), (tI 11 x9.turn)] ac l fun aw ad => ?_
 obtain ⟨x15, ex15, H⟩ := bnd H
 obtain ⟨ai, ak, ao⟩ := idx_some ex15
 obtain ⟨p, u, au, y, am, aa⟩ := s.get (by decide) ao
 obtain ⟨_, _, rfl, rfl, ⟨_, _, rfl, rfl, rfl⟩⟩ := am
 have q := l.addPlc (b := p) (o := u + (b : Int).toNat * 3) (cs := [.int .i64 x15.lo, .int .i64 x15.hi, .int .i64 x15.turn]) (fun j c hj => aa j _ (map_get hj)) rfl (by kernel_rfl) (by kernel_rfl)
 refine D_index 9 (b) [.int .i64 x15.lo, .int .i64 x15.hi, .int .i64 x15.turn] (fun _ _ _ _ _ h => h) rfl rfl (rfl) rfl (by decide) (by kernel_rfl) (by kernel_rfl) ad l.plOk (by rfl) (by rfl) (by rfl) y (by rfl) ai ak (by kernel_rfl) fun aq (ae : Kn 19 [(b_q0, 0), (i, m + (a : Int).toNat * 3), (p, u + (b : Int).toNat * 3)] [(tP 15 2 0), (tI 14 b), (tS 13 d q0.buses.length f), (tI 11 x9.turn)] aq) => ?_
 refine Dr [10, 11, 12, 13] (dn 13) [(tI 5 (IntKind.i64.wrap (x9.turn - x15.turn)))] ae q fun ax af => ?_
 refine wpD_end (by kernel_rfl) (wp_ret ?_)
 obtain rfl := Option.some.inj H
 exact rt (.one (.c (.int .i64 (IntKind.i64.wrap (x9.turn - x15.turn))))) af q rfl
set_option maxRecDepth 100000 in
set_option maxHeartbeats 4000000 in
theorem slices_Values_int_int_1_it (n : Nat) {h : Heap} {w : World} {σ : Type} {J : σ → Heap → World → Prop} (hJ : JOk J) {l : Nat} (yield_ : σ → Int → Option (σ × Bool)) (hy : ∀ (s : σ) (x0 : Int) (s' : σ) (b : Bool) (h : Heap) (w : World), J s h w → yield_ s x0 = some (s', b) → Yields Try.prog l #[.int .i64 x0] w (fun c w' => c = b ∧ ∃ h', Heap.le h h' ∧ J s' h' w')) (s : σ) (hw : J s h w) (q0 : List Int) {b_q0 : Nat} (hb_q0 : BoxS h b_q0 q0) {r : σ} (H : slices_Values_int_int_1 n yield_ s q0 = some r) :
  Calls Try.prog 107 #[.func (.yield l) #[] #[], .pointer (some ⟨b_q0, 0, none⟩)] w (fun en w' => en = .returned (.tuple #[]) ∧ ∃ h', Heap.le h h' ∧ J r h' w') := by
 obtain ⟨_, hx_q0, hc_q0⟩ := id hb_q0
 obtain ⟨a, d, rfl, ah⟩ := hx_q0
 have hh := hJ.has _ _ _ hw
 refine enter' (e := [(b_q0, 0)]) 16 [.c (.func (.yield l) #[] #[]), .c (.ptr 0 0)] Try.func107 rfl rfl rfl rfl fun t hk => ?_
 have hm := Mem.begin h w hh
 replace hm := hm.addPlc (o := 0) (cs := [.slice a q0.length d]) (fun j c hj => by rw [Nat.zero_add]; exact hc_q0 j _ (map_get hj)) rfl (by kernel_rfl) (by kernel_rfl)
 replace hm : Mem ⟨w, h, noX⟩ h [(b_q0, 0)] [⟨[.slice a q0.length d], none⟩] [] w := hm
 unfold slices_Values_int_int_1 at H
 refine wp_seq (wp_region_from (Rk 0 3 [(tI 7 0), (tI 6 ((q0.length : Nat) : Int)), (tS 5 a q0.length d), (0, .one (.c (.func (.yield l) #[] #[])))] hk hm fun bi a1 => ?_))
 refine wf ?_
 obtain ⟨aq, an, H⟩ := bnd H
 refine wp_mid' (fun a' w' => ∃ (x : σ) (am : World) (ad : Heap) (aj : Array Value) (k : Heap), a' = ⟨aj, []⟩ ∧ Kn 16 [(b_q0, 0)] [] aj ∧ Mem ⟨am, ad, noX⟩ k [(b_q0, 0)] [⟨[.slice a q0.length d], none⟩] [] w' ∧ Heap.le h k ∧ J x ad am ∧ aq = .go x) ?_ ?_
 ·
  refine wp_block ?_
  refine wp_loop_n (fun bb a' w' => ∃ (x_v10 : Int) (x_v11 : σ) (y : World) (p : Heap) (ak : Array Value) (aa : Heap), a' = ⟨ak, []⟩ ∧ Kn 16 [(b_q0, 0)] [(tI 7 x_v10), (tI 6 ((q0.length : Nat) : Int)), (tS 5 a q0.length d), (0, .one (.c (.func (.yield l) #[] #[])))] ak ∧ Mem ⟨y, p, noX⟩ aa [(b_q0, 0)] [⟨[.slice a q0.length d], none⟩] [] w' ∧ Heap.le h aa ∧ J x_v11 p y ∧ slices_Values_int_int_1_l1 bb yield_ q0 x_v10 x_v11 = some aq) n ?_ ?_
  ·
   exact Exists.intro 0 ⟨s, w, h, _, _, rfl, a1.kp, hm, (Heap.le_refl _), hw, an⟩
  ·
   rintro ai _ bn ⟨x_v10, x_v11, y, p, ak, aa, rfl, ax, ag, g, ao, f⟩
   clear an
   obtain _ | ai := ai
   ·
    rw [slices_Values_int_int_1_l1] at f; cases f
   rw [slices_Values_int_int_1_l1] at f
   replace ah := ah.mono g
   replace hb_q0 := hb_q0.mono g
   refine wp_seq (wp_region_from (Rk 0 1 [(tB 8 (decide (x_v10 < ((q0.length : Nat) : Int)))), (tI 7 x_v10), (tI 6 ((q0.length : Nat) : Int)), (tS 5 a q0.length d), (0, .one (.c (.func (.yield l) #[] #[])))] ax ag fun bh ae => ?_))
   refine wf (wp_seq (wC (decide (x_v10 < ((q0.length : Nat) : Int))) ae (fun ab => ?_) (fun ab => ?_)))
   ·
    rw [ab, cond_true] at f
    refine wp_skip (wp_seq (wp_block (wp_seq (wp_region_from ?_))))
    obtain ⟨x9, ex9, f⟩ := bnd f
    obtain ⟨a7, a8, ba⟩ := idx_some ex9
    obtain ⟨i, v, bf, av, a9, aw⟩ := ah.get (by decide) ba
    obtain rfl := a9
    have q := ag.addPlc (b := i) (o := v + (x_v10 : Int).toNat * 1) (cs := [.int .i64 x9]) (fun j c hj => aw j _ (map_get hj)) rfl (by kernel_rfl) (by kernel_rfl)
    refine R_index 0 (x_v10) rfl rfl (rfl) rfl (by decide) ae (by rfl) (by rfl) (by rfl) av (by rfl) a7 a8 (by kernel_rfl) fun bc (ay : Kn 16 [(b_q0, 0), (i, v + (x_v10 : Int).toNat * 1)] [(tP 9 1 0), (tB 8 (decide (x_v10 < ((q0.length : Nat) : Int)))), (tI 7 x_v10), (tI 6 ((q0.length : Nat) : Int)), (tS 5 a q0.length d), (0, .one (.c (.func (.yield l) #[] #[])))] bc) => ?_
    refine Rk 1 2 [(tI 4 x9), (tI 7 x_v10), (tI 6 ((q0.length : Nat) : Int)), (tS 5 a q0.length d), (0, .one (.c (.func (.yield l) #[] #[])))] ay q fun bj az => ?_
    refine wf (wp_seq (wp_region_fromI ?_))
    refine RI_runk 0 2 [12, 11, 7, 6, 5, 0] [(tI 12 x9), (11, .one (.c (.func (.yield l) #[] #[]))), (tI 7 x_v10), (tI 6 ((q0.length : Nat) : Int)), (tS 5 a q0.length d), (0, .one (.c (.func (.yield l) #[] #[])))] az q.plOk (by kernel_rfl) fun bk a0 => ?_
    obtain ⟨x13, ex13, f⟩ := bnd f
    refine RI_yield 2 [.c (.int .i64 x9)] _ a0 rfl rfl (rfl) rfl (by decide) (by rfl) (by rfl) rfl (hy _ x9 _ _ _ _ (q.J hJ ao) ex13) fun be al au bd a2 => ?_
    obtain ⟨rfl, m, af, z⟩ := au
    have a3 : Kn 16 [(b_q0, 0), (i, v + (x_v10 : Int).toNat * 1)] [(tB 13 x13.2), (tI 12 x9), (11, .one (.c (.func (.yield l) #[] #[]))), (tI 7 x_v10), (tI 6 ((q0.length : Nat) : Int)), (tS 5 a q0.length d), (0, .one (.c (.func (.yield l) #[] #[])))] bd := a2.kp
    have u : Mem ⟨al, m, noX⟩ m [(b_q0, 0), (i, v + (x_v10 : Int).toNat * 1)] [⟨[.slice a q0.length d], none⟩, ⟨[.int .i64 x9], none⟩] [] al := q.rebase af (hJ.has _ _ _ z) (by kernel_rfl)
    refine RI_runk 3 1 [14, 7, 6, 5, 0] [(tB 14 (!x13.2)), (tI 7 x_v10), (tI 6 ((q0.length : Nat) : Int)), (tS 5 a q0.length d), (0, .one (.c (.func (.yield l) #[] #[])))] a3 u.plOk (by kernel_rfl) fun bl ap => ?_
    refine wpFromI_end (by decide) (wC ((!x13.2)) ap (fun ac => ?_) (fun ac => ?_))
    ·
     rw [ac, cond_true] at f
     refine wp_ret ?_
     obtain rfl := Option.some.inj f
     obtain rfl := Option.some.inj H
     exact it_ret (J := fun w' => ∃ h', Heap.le h h' ∧ J x13.1 h' w') rfl ⟨m, (Heap.le_trans g af), u.J hJ z⟩
    ·
     rw [ac, cond_false] at f
     refine wp_skip (wp_region_from (Rk 0 2 [(tI 7 (IntKind.i64.wrap (x_v10 + 1))), (tI 6 ((q0.length : Nat) : Int)), (tS 5 a q0.length d), (0, .one (.c (.func (.yield l) #[] #[])))] ap u fun bm a4 => ?_))
     refine wf ?_
     exact Exists.intro ai ⟨Nat.lt_succ_self _, Exists.intro (IntKind.i64.wrap (x_v10 + 1)) ⟨x13.1, al, m, _, _, rfl, ((a4.keep [7, 6, 5, 0] (by rfl)).cut 1 (by kernel_rfl)), (u.cutPl 1 (by kernel_rfl)), (Heap.le_trans g af), z, f⟩⟩
   ·
    rw [ab, cond_false] at f
    refine wp_exit ?_
    obtain rfl := Option.some.inj f
    exact Exists.intro x_v11 ⟨y, p, _, _, rfl, ae.kp, ag, g, ao, rfl⟩
 ·
  rintro _ bo ⟨x, am, ad, aj, k, rfl, bg, a6, a5, ar, rfl⟩
  rw [Ex.bind_go] at H
  obtain rfl := Option.some.inj H
  exact it_end (J := fun w' => ∃ h', Heap.le h h' ∧ J x h' w') rfl ⟨k, a5, a6.J hJ ar⟩
set_option maxRecDepth 100000 in
set_option maxHeartbeats 4000000 in
theorem slices_Values_int_int_ok (n : Nat) {h : Heap} {w : World} (hh : Has h w) (s : List Int) {a_s : Option Addr} {c_s : Nat} (hr_s : RepS h a_s c_s s) {r : (List Int)} (H : slices_Values_int_int n s = some r) :
  Calls Try.prog 81 #[.slice a_s s.length c_s] w (Ret (fun h v => ∃ b0 : Nat, v = .func (.func 107) #[] #[.pointer (some ⟨b0, 0, none⟩)] ∧ BoxS h b0 r) h w) := by
 refine enter 4 [.c (.slice a_s s.length c_s)] Try.func81 rfl rfl rfl rfl fun t hk => ?_
 have hm := Mem.begin h w hh
 unfold slices_Values_int_int at H
 refine wp_seq (wp_region_from (wl fun K hK => ?_))
 refine wb (.c (.slice a_s s.length c_s)) hk hm fun a u x (m : Kn 4 [(a, 0)] [(tP 1 0 0), (tS 0 a_s s.length c_s)] u) g => hK _ _ ?_
 refine Rk 1 1 [(tP 1 0 0)] m g fun aa o => ?_
 refine wf (wp_seq (wp_region_from ?_))
 obtain ⟨b, p, f, d⟩ := g.settlePlc (i := 0) rfl
 replace hr_s := hr_s.mono p
 replace d : Mem ⟨w, h, noX⟩ b [(a, 0)] [⟨[.slice a_s s.length c_s], none⟩] [] x := d
 have j : BoxS b a (s : List Int) := BoxS.of (e := [(a, 0)]) (cs := [.slice a_s s.length c_s]) ((rep_slice hr_s) : rep b (s : List Int) _) rfl f
 have y : CellsAt b a [.slice a_s s.length c_s] := CellsAt.of (e := [(a, 0)]) (cs := [.slice a_s s.length c_s]) rfl f
 refine R_func 0 #[] #[.pointer (some ⟨a, 0, none⟩)] o rfl rfl (rfl) rfl (by decide) (by rfl) (by rfl) (by rfl) (by rfl) fun q (k : Kn 4 [(a, 0)] [(3, .one (.c (.func (.func 107) #[] #[.pointer (some ⟨a, 0, none⟩)]))), (tP 1 0 0)] q) => ?_
 refine Rk 1 1 [(2, .one (.c (.func (.func 107) #[] #[.pointer (some ⟨a, 0, none⟩)])))] k d fun z l => ?_
 refine wf (wp_ret ?_)
 obtain rfl := Option.some.inj H
 exact rt (.one (.c (.func (.func 107) #[] #[.pointer (some ⟨a, 0, none⟩)]))) l d ⟨_, rfl, j⟩
abbrev K65c1 (k : Option Addr) (y : Yard) (m : Nat) (l : Option Addr) (o : Nat) : List SC := [.slice k y.room.length m, .slice l y.buses.length o, .int .i64 y.broken]
abbrev K65c2 (broken : Some) : List SC := [.bool broken.a0, .bool broken.a1, .bool broken.a2, .bool broken.a3, .bool broken.a4, .bool broken.a5, .bool broken.a6, .bool broken.a7]
abbrev K65m3 (x_v11 : Int) (y : Yard) (g : Option Addr) (x_v10 : List Int) (j : Nat) : TM := [(tI 10 x_v11), (tI 9 ((y.buses.length : Nat) : Int)), (tS 5 g x_v10.length j), (tP 3 1 0), (tP 2 0 0)]
set_option maxRecDepth 100000 in
set_option maxHeartbeats 4000000 in
theorem lane_Yard_turns_ok (n : Nat) {h : Heap} {w : World} (hh : Has h w) (y : Yard) {cs_y : List Value} (hx_y : rep h y cs_y) (broken : Some) {cs_broken : List Value} (hx_broken : rep h broken cs_broken) {r : (List Int)} (H : lane_Yard_turns n y broken = some r) :
  Calls Try.prog 65 #[.agg cs_y.toArray, .agg cs_broken.toArray] w (Ret (fun h v => ∃ b0 : Nat, v = .func (.func 107) #[] #[.pointer (some ⟨b0, 0, none⟩)] ∧ BoxS h b0 r) h w) := by
 obtain ⟨_, _, rfl, ⟨k, m, rfl, az⟩, ⟨_, _, rfl, ⟨l, o, rfl, a8⟩, rfl⟩⟩ := hx_y
 obtain ⟨_, _, rfl, rfl, ⟨_, _, rfl, rfl, ⟨_, _, rfl, rfl, ⟨_, _, rfl, rfl, ⟨_, _, rfl, rfl, ⟨_, _, rfl, rfl, ⟨_, _, rfl, rfl, rfl⟩⟩⟩⟩⟩⟩⟩ := hx_broken
 refine enter 27 [.agg (K65c1 k y m l o), .agg (K65c2 broken)] Try.func65 rfl rfl rfl rfl fun t hk => ?_
 have hm := Mem.begin h w hh
 unfold lane_Yard_turns at H
 refine wp_seq (wp_region_from (wl fun K hK => ?_))
 refine wb (.agg (K65c1 k y m l o)) hk hm fun a da d3 (bz : Kn 27 [(a, 0)] [(tP 2 0 0), (tA 0 (K65c1 k y m l o)), (tA 1 (K65c2 broken))] da) cr => hK _ _ ?_
 refine wl fun K hK => ?_
 refine wb (.agg (K65c2 broken)) bz cr fun f c4 db (b8 : Kn 27 [(a, 0), (f, 0)] [(tP 3 1 0), (tP 2 0 0), (tA 0 (K65c1 k y m l o)), (tA 1 (K65c2 broken))] c4) ag => hK _ _ ?_
 refine Rk 2 1 [(tP 3 1 0), (tP 2 0 0)] b8 ag fun dk b9 => ?_
 refine wf (wp_seq (wp_region_from (Rk 0 1 [(tS 5 none 0 0), (tP 3 1 0), (tP 2 0 0)] b9 ag fun dl ca => ?_)))
 refine wf (wp_seq (wp_seq (wp_region_from (Rk 0 4 [(tI 10 0), (tI 9 ((y.buses.length : Nat) : Int)), (tS 5 none 0 0), (tP 3 1 0), (tP 2 0 0)] ca ag fun dm cb => ?_))))
 refine wf ?_
 have cu : Mem ⟨w, h, noX⟩ h [(a, 0), (f, 0)] [⟨(K65c1 k y m l o), some 33⟩, ⟨(K65c2 broken), some 74⟩] [⟨none, 0, 0, 3, 1, [], 0⟩] db := ag.nilRow 3 1
 have bv : Cells h ([] : List Int) [] := Cells.nil
 obtain ⟨q, bf, H⟩ := bnd H
 refine wp_mid' (fun a' w' => ∃ (b : Option Addr) (d : Nat) (ai : List Value) (bb : Array Value) (ae : Heap), a' = ⟨bb, []⟩ ∧ Kn 27 [(a, 0), (f, 0)] [(tS 5 b q.length d), (tP 2 0 0)] bb ∧ Mem ⟨w, h, noX⟩ ae [(a, 0), (f, 0)] [⟨(K65c1 k y m l o), some 33⟩, ⟨(K65c2 broken), some 74⟩] [⟨b, q.length, d, 3, 1, ai, 0⟩] w' ∧ Heap.le h ae ∧ Cells ae q ai) ?_ ?_
 ·
  refine wp_block ?_
  refine wp_loop_n (fun c2 a' w' => ∃ (x_v10 : List Int) (x_v11 : Int) (g : Option Addr) (j : Nat) (x : List Value) (bc : Array Value) (u : Heap), a' = ⟨bc, []⟩ ∧ Kn 27 [(a, 0), (f, 0)] (K65m3 x_v11 y g x_v10 j) bc ∧ Mem ⟨w, h, noX⟩ u [(a, 0), (f, 0)] [⟨(K65c1 k y m l o), some 33⟩, ⟨(K65c2 broken), some 74⟩] [⟨g, x_v10.length, j, 3, 1, x, 0⟩] w' ∧ Heap.le h u ∧ Cells u x_v10 x ∧ lane_Yard_turns_l1 c2 y broken x_v10 x_v11 = some q) n ?_ ?_
  ·
   exact Exists.intro ([] : List Int) ⟨0, none, 0, ([]), _, _, rfl, cb.kp, cu, (Heap.le_refl _), bv, bf⟩
  ·
   rintro ah _ d0 ⟨x_v10, x_v11, g, j, x, bc, u, rfl, cc, s, ar, am, p⟩
   clear bf
   obtain _ | ah := ah
   ·
    rw [lane_Yard_turns_l1] at p; cases p
   rw [lane_Yard_turns_l1] at p
   refine wp_seq (wp_region_from (Rk 0 1 ((tB 11 (decide (x_v11 < ((y.buses.length : Nat) : Int)))) :: (K65m3 x_v11 y g x_v10 j)) cc s fun dn ap => ?_))
   refine wf (wp_seq (wC (decide (x_v11 < ((y.buses.length : Nat) : Int))) ap (fun aj => ?_) (fun aj => ?_)))
   ·
    rw [aj, cond_true] at p
    refine wp_skip (wp_seq (wp_block (wp_seq (wp_region_from (Rk 0 2 ((tI 6 x_v11) :: (K65m3 x_v11 y g x_v10 j)) ap s fun dp cd => ?_)))))
    refine wf (wp_seq (wp_region_from (Rk 0 1 ((tI 13 x_v11) :: (tI 6 x_v11) :: (K65m3 x_v11 y g x_v10 j)) cd s fun dq bj => ?_)))
    obtain ⟨x14, ex14, p⟩ := bnd p
    obtain ⟨cw, cx⟩ := rng_some ex14
    refine R_one 1 (.one (.c (.ptr 1 (0 + (x_v11 : Int).toNat * 1)))) rfl (rfl) rfl (run_indexA (E := 4) bj rfl (by kernel_rfl) (by kernel_rfl) (by rfl) (by rfl) cw cx) (bj.put (by decide) _) fun c6 (bk : Kn 27 [(a, 0), (f, 0)] ((tP 14 1 (0 + (x_v11 : Int).toNat * 1)) :: (tI 13 x_v11) :: (tI 6 x_v11) :: (K65m3 x_v11 y g x_v10 j)) c6) => ?_
    obtain ⟨x15, ex15, p⟩ := bnd p
    obtain ⟨_, _, c1⟩ := idx_some ex15
    refine R_one 2 (.one (.c (.bool x15))) rfl (rfl) rfl (run_loadAt1 bk s.plOk rfl (by rfl) rfl (by kernel_rfl) (arr_get (fun (y : Bool) => ([.bool y] : List SC)) 1 (fun _ => rfl) [] [] broken.toL _ _ c1 rfl rfl)) (bk.put (by decide) _) fun c7 (ce : Kn 27 [(a, 0), (f, 0)] ((tB 15 x15) :: (tP 14 1 (0 + (x_v11 : Int).toNat * 1)) :: (tI 13 x_v11) :: (tI 6 x_v11) :: (K65m3 x_v11 y g x_v10 j)) c7) => ?_
    refine Rk 3 1 ((tB 16 (!x15)) :: (tI 6 x_v11) :: (K65m3 x_v11 y g x_v10 j)) ce s fun dr aq => ?_
    refine wf (wC ((!x15)) aq (fun ak => ?_) (fun ak => ?_))
    ·
     rw [ak, cond_true] at p
     refine wp_region_from (Rk 0 2 [(tI 18 x_v11), (tS 17 g x_v10.length j), (tI 10 x_v11), (tI 9 ((y.buses.length : Nat) : Int)), (tP 3 1 0), (tP 2 0 0)] aq s fun ds cf => ?_)
     refine wl fun K hK => ?_
     refine wS 3 1 [.int .i64 x_v11] cf s fun be c8 d1 (cg : Kn 27 [(a, 0), (f, 0)] [(tS 19 be 1 1), (tI 18 x_v11), (tS 17 g x_v10.length j), (tI 10 x_v11), (tI 9 ((y.buses.length : Nat) : Int)), (tP 3 1 0), (tP 2 0 0)] c8) bn => ?_
     have ao : Cells u ([x_v11] : List Int) ([.int .i64 x_v11] : List Value) := ⟨_, _, rfl, (rep_int : rep u (x_v11 : Int) _), rfl⟩
     refine hK _ _ ?_
     obtain ⟨x20, ex20, p⟩ := bnd p
     obtain ⟨a9, co⟩ := app_some ex20
     refine wl fun K hK => ?_
     refine wp_append 0 8 1 _ (x20.length) _ ([.int .i64 x_v11] : List Value) cg bn rfl rfl (by decide) rfl (by rfl) (by kernel_rfl) (by rfl) (by rfl) (Cells.len ao) (bn.rowCell (i := 1) rfl) ao.one (by rw [a9]; simp <;> omega) (by rw [a9]; exact co) (by decide) fun ab ad bq c9 d2 bx (ch : Kn 27 [(a, 0), (f, 0)] [(tS 20 ab x20.length ad), (tS 19 be 1 1), (tI 18 x_v11), (tS 17 g x_v10.length j), (tI 10 x_v11), (tI 9 ((y.buses.length : Nat) : Int)), (tP 3 1 0), (tP 2 0 0)] c9) ax => ?_
     have bw : Cells u x20 (x ++ ([.int .i64 x_v11] : List Value)) := by rw [a9]; exact Cells.append am ao
     obtain rfl : bq = 0 := Nat.le_zero.1 bx
     refine hK _ _ ?_
     refine Rk 4 1 [(tS 5 ab x20.length ad), (tI 10 x_v11), (tI 9 ((y.buses.length : Nat) : Int)), (tP 3 1 0), (tP 2 0 0)] ch ax fun dt ci => ?_
     refine wf (wp_region_from (Rk 0 2 [(tI 10 (IntKind.i64.wrap (x_v11 + 1))), (tS 5 ab x20.length ad), (tI 9 ((y.buses.length : Nat) : Int)), (tP 3 1 0), (tP 2 0 0)] ci ax fun du cj => ?_))
     refine wf ?_
     exact Exists.intro ah ⟨Nat.lt_succ_self _, Exists.intro x20 ⟨(IntKind.i64.wrap (x_v11 + 1)), ab, ad, (x ++ ([.int .i64 x_v11] : List Value)), _, _, rfl, cj.kp, (ax.cutRw 1), ar, bw, p⟩⟩
    ·
     rw [ak, cond_false] at p
     refine wp_skip (wp_region_from (Rk 0 2 [(tI 10 (IntKind.i64.wrap (x_v11 + 1))), (tI 9 ((y.buses.length : Nat) : Int)), (tS 5 g x_v10.length j), (tP 3 1 0), (tP 2 0 0)] aq s fun dv ck => ?_))
     refine wf ?_
     exact Exists.intro ah ⟨Nat.lt_succ_self _, Exists.intro x_v10 ⟨(IntKind.i64.wrap (x_v11 + 1)), g, j, x, _, _, rfl, ck.kp, s, ar, am, p⟩⟩
   ·
    rw [aj, cond_false] at p
    refine wp_exit ?_
    obtain rfl := Option.some.inj p
    exact Exists.intro g ⟨j, x, _, _, rfl, ap.kp, s, ar, am⟩
 ·
  rintro _ dc ⟨b, d, ai, bb, ae, rfl, cl, bo, bl, an⟩
  refine wp_seq (wp_region_from (Rk 0 1 [(tS 22 b q.length d), (tS 5 b q.length d), (tP 2 0 0)] cl bo fun dw cm => ?_))
  obtain ⟨z, au, bi, ay⟩ := bo.settlePlc (i := 0) rfl
  replace az := az.mono (Heap.le_trans bl au)
  replace a8 := a8.mono (Heap.le_trans bl au)
  replace an := an.mono au
  replace ay : Mem ⟨w, h, noX⟩ z [(a, 0), (f, 0)] [⟨(K65c1 k y m l o), none⟩, ⟨(K65c2 broken), some 74⟩] [⟨b, q.length, d, 3, 1, ai, 0⟩] dc := ay
  have bt : BoxS z a (y : Yard) := BoxS.of (e := [(a, 0), (f, 0)]) (cs := (K65c1 k y m l o)) ((rep_pair (rep_slice az) (rep_pair (rep_slice a8) rep_int)) : rep z (y : Yard) _) rfl bi
  have dg : CellsAt z a [.slice k y.room.length m, .slice l y.buses.length o, .int .i64 y.broken] := CellsAt.of (e := [(a, 0), (f, 0)]) (cs := [.slice k y.room.length m, .slice l y.buses.length o, .int .i64 y.broken]) rfl bi
  refine R_func 1 #[] #[.pointer (some ⟨a, 0, none⟩)] cm rfl rfl (rfl) rfl (by decide) (by rfl) (by rfl) (by rfl) (by rfl) fun c3 (b1 : Kn 27 [(a, 0), (f, 0)] [(23, .one (.c (.func (.func 80) #[] #[.pointer (some ⟨a, 0, none⟩)]))), (tS 22 b q.length d), (tS 5 b q.length d), (tP 2 0 0)] c3) => ?_
  obtain ⟨x24, ex24, H⟩ := bnd H
  obtain ⟨dd, de, cn, cz⟩ := ay.lend0 [] [0] (by kernel_rfl) (by kernel_rfl) (by kernel_rfl) (by kernel_rfl)
  refine wl fun K hK => ?_
  refine wp_callM [.c (.slice b q.length d), .c (.func (.func 80) #[] #[.pointer (some ⟨a, 0, none⟩)])] _ b1 rfl rfl (by decide) (by rfl) rfl (fun _ _ => by kernel_rfl) (slices_SortFunc_int_int_ok n q an (fun (y0 : Int) (y1 : Int) => lane_Yard_turns_1 n y0 y1 y) (show Fn3 z (.func (.func 80) #[] #[.pointer (some ⟨a, 0, none⟩)]) (fun (y0 : Int) (y1 : Int) => lane_Yard_turns_1 n y0 y1 y) from fun h2 w2 hle hh y0 y1 r H => ⟨80, _, _, rfl, fun _ _ => by kernel_rfl, lane_Yard_turns_1_ok n hh y0 y1 y (bt.mono hle) H⟩) cn ex24) fun dx bd bs => ?_
  obtain ⟨bg, aa, cp, rfl, cv, al, ct⟩ := bs
  have av := cz _ _ _ [⟨b, q.length, d, 3, 1, aa, 0⟩] cp rfl (Nat.le_of_ble_eq_true rfl) (by kernel_rfl) ct
  replace av : Mem ⟨w, h, noX⟩ bg [(a, 0), (f, 0)] [⟨(K65c1 k y m l o), none⟩, ⟨(K65c2 broken), some 74⟩] [⟨b, q.length, d, 3, 1, aa, 0⟩] bd := av
  refine ⟨.tup [], rfl, fun ba (b2 : Kn 27 [(a, 0), (f, 0)] [(24, .tup []), (23, .one (.c (.func (.func 80) #[] #[.pointer (some ⟨a, 0, none⟩)]))), (tS 22 b q.length d), (tS 5 b q.length d), (tP 2 0 0)] ba) => hK _ _ ?_⟩
  have bp := cv.symm
  have b3 : Kn 27 [(a, 0), (f, 0)] [(24, .tup []), (23, .one (.c (.func (.func 80) #[] #[.pointer (some ⟨a, 0, none⟩)]))), (22, .one (.c (.slice b x24.length d))), (5, .one (.c (.slice b x24.length d))), (2, .one (.c (.ptr 0 0)))] ba := by rw [← bp]; exact b2
  have aw : Mem ⟨w, h, noX⟩ bg [(a, 0), (f, 0)] [⟨[.slice k y.room.length m, .slice l y.buses.length o, .int .i64 y.broken], none⟩, ⟨[.bool broken.a0, .bool broken.a1, .bool broken.a2, .bool broken.a3, .bool broken.a4, .bool broken.a5, .bool broken.a6, .bool broken.a7], some 74⟩] [⟨b, x24.length, d, 3, 1, aa, 0⟩] bd := by rw [← bp]; exact av
  have b4 : Kn 27 [(a, 0), (f, 0)] [(tS 5 b x24.length d)] ba := b3.kp
  refine wf (wp_seq (wp_region_from (Rk 0 1 [(tS 25 b x24.length d)] b4 aw fun di b5 => ?_)))
  obtain ⟨bh, cq, c0, af⟩ := aw.settle (i := 0) rfl
  replace al := al.mono cq
  replace af : Mem ⟨w, h, noX⟩ bh [(a, 0), (f, 0)] [⟨(K65c1 k y m l o), none⟩, ⟨(K65c2 broken), some 74⟩] [⟨b, x24.length, d, 3, 1, aa, (aa : List Value).length⟩] bd := af
  have cy : RepS bh b d x24 := ⟨_, al, c0, aw.rowCap (i := 0) rfl⟩
  obtain ⟨x26, ex26, H⟩ := bnd H
  refine wl fun K hK => ?_
  refine wc [.c (.slice b x24.length d)] b5 af (slices_Values_int_int_ok n af.has x24 cy ex26) fun dy df dz br dh bm => ?_
  obtain ⟨ac, rfl, bu⟩ := br
  refine ⟨.one (.c (.func (.func 107) #[] #[.pointer (some ⟨ac, 0, none⟩)])), rfl, fun c5 (b6 : Kn 27 [(a, 0), (f, 0)] [(26, .one (.c (.func (.func 107) #[] #[.pointer (some ⟨ac, 0, none⟩)]))), (tS 25 b x24.length d)] c5) => hK _ _ ?_⟩
  refine Rk 2 1 [(4, .one (.c (.func (.func 107) #[] #[.pointer (some ⟨ac, 0, none⟩)])))] b6 bm fun dj b7 => ?_
  refine wf (wp_ret ?_)
  obtain rfl := Option.some.inj H
  exact rt (.one (.c (.func (.func 107) #[] #[.pointer (some ⟨ac, 0, none⟩)]))) b7 bm ⟨_, rfl, bu⟩
end Go.Proofs.Ythcbemnflgjadaa
