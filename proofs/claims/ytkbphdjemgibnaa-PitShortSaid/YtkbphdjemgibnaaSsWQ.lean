/- Each call computes its plain function. -/
import Derived.Test.YtkbphdjemgibnaaProg
import Derived.Test.YtkbphdjemgibnaaSsP0
import Derived.Test.YtkbphdjemgibnaaSsS6
import Derived.Test.YtkbphdjemgibnaaSsWP
set_option linter.all false
namespace Go.Proofs.Ytkbphdjemgibnaa
open Go Go.RowKit
open Rep (rep)
open KRep (kv)
open VRep (rv)
abbrev K55c1 (a : Nat) (f : Option Addr) (x_v10 : List Int) (g : Nat) : List SC := [.map (some a), .slice f x_v10.length g]
abbrev K55e2 (d m p : Nat) (x_v11 : Int) (q s : Nat) : Env := [(d, 0), (m, p + (x_v11 : Int).toNat * 6), (q, 0), (s, 0)]
abbrev K55c3 : List SC := [.int .i64 0, .int .i64 0, .int .i64 0, .int .u8 0, .int .i64 0, .int .i64 0]
abbrev K55c4 (x24 : Card) : List SC := [.int .i64 x24.bus, .int .i64 x24.number, .int .i64 x24.minute, .int .u8 x24.kind.n, .int .i64 x24.part, .int .i64 x24.sg]
abbrev K55c5 (x33 : Card × Bool) : List SC := [.int .i64 x33.1.bus, .int .i64 x33.1.number, .int .i64 x33.1.minute, .int .u8 x33.1.kind.n, .int .i64 x33.1.part, .int .i64 x33.1.sg]
abbrev K55p6 (a : Nat) (f : Option Addr) (x_v10 : List Int) (g : Nat) (x24 : Card) : List Plc := [⟨(K55c1 a f x_v10 g), some 108⟩, ⟨(K55c4 x24), none⟩, ⟨(K55c4 x24), some 99⟩, ⟨K55c3, some 99⟩]
abbrev K55p7 (a : Nat) (f : Option Addr) (x_v10 : List Int) (g : Nat) (x24 : Card) (x33 : Card × Bool) : List Plc := [⟨(K55c1 a f x_v10 g), some 108⟩, ⟨(K55c4 x24), none⟩, ⟨(K55c4 x24), some 99⟩, ⟨(K55c5 x33), some 99⟩]
abbrev K55m8 (x_v11 : Int) (l : List Card) (a_l : Option Addr) (c_l : Nat) : TM := [(tI 22 x_v11), (tI 21 ((l.length : Nat) : Int)), (tS 20 a_l l.length c_l), (tP 4 0 0)]
abbrev K55m9 (x24 : Card) (a : Nat) (x_v11 : Int) (l : List Card) (a_l : Option Addr) (c_l : Nat) : TM := (tI 32 x24.number) :: (30, .one (.c (.map (some a)))) :: (tP 6 2 0) :: (K55m8 x_v11 l a_l c_l)
set_option maxRecDepth 100000 in
set_option maxHeartbeats 4000000 in
theorem pit_read_ok (n : Nat) {h : Heap} {w : World} (hh : Has h w) (l : List Card) {a_l : Option Addr} {c_l : Nat} (hr_l : RepS h a_l c_l l) {r : (Option (Bx Book)) × Int} (H : pit_read n l = some r) :
  Calls Try.prog 55 #[.slice a_l l.length c_l] w (Ret (fun h v => ∃ v0 v1, v = .tuple #[v0, v1] ∧ (PtrS h v0 r.1) ∧ (v1 = .int .i64 r.2)) h w) := by
 refine enter 69 [.c (.slice a_l l.length c_l)] Try.func55 rfl rfl rfl rfl fun t hk => ?_
 have hm := Mem.begin h w hh
 unfold pit_read at H
 refine wp_seq (wp_region_from (Rk 0 2 [(tS 0 a_l l.length c_l)] hk hm fun fy d3 => ?_))
 refine wf (wp_seq (wp_block (wp_seq (wp_region_from (Rk 0 4 [(tB 9 (decide (((l.length : Nat) : Int) > 40))), (tS 0 a_l l.length c_l)] d3 hm fun gf bp => ?_)))))
 refine wf (wC (decide (((l.length : Nat) : Int) > 40)) bp (fun bi => ?_) (fun bi => ?_))
 ·
  rw [bi, cond_true] at H
  refine wp_seq (wp_region_from (Rk 0 2 [(tI 3 3), (2, .one (.c (.nilptr)))] bp hm fun gi ej => ?_))
  refine wf (wp_ret ?_)
  obtain rfl := Option.some.inj H
  exact rt (.tup [.c (.nilptr), .c (.int .i64 3)]) ej hm ⟨_, _, rfl, rfl, rfl⟩
 ·
  rw [bi, cond_false] at H
  refine wp_seq (wp_region_from (Rk 0 1 [(tS 14 a_l l.length c_l), (tS 0 a_l l.length c_l)] bp hm fun gk em => ?_))
  obtain ⟨x15, ex15, H⟩ := bnd H
  refine wl fun K hK => ?_
  refine wc [.c (.slice a_l l.length c_l), .c (.func (.func 82) #[] #[])] em hm (pit_all_pit_Card_ok n hm.has l hr_l (fun (y0 : Card) => pit_Card_valid n y0) (show Fn1 h (.func (.func 82) #[] #[]) (fun (y0 : Card) => pit_Card_valid n y0) from fun h2 w2 hle hh y0 cs0 hy0 r H => ⟨82, _, _, rfl, fun _ _ => by kernel_rfl, pit_Card_valid_ok n hh y0 hy0 H⟩) ex15) fun gm am fk c1 eu a9 => ?_
  replace hr_l := hr_l.mono eu
  obtain rfl := c1
  refine ⟨.one (.c (.bool x15)), rfl, fun e8 (dv : Kn 69 [] [(tB 15 x15), (tS 14 a_l l.length c_l), (tS 0 a_l l.length c_l)] e8) => hK _ _ ?_⟩
  refine Rk 2 2 [(tB 13 (!x15)), (tS 0 a_l l.length c_l)] dv a9 fun f7 bo => ?_
  refine wf (wC ((!x15)) bo (fun bh => ?_) (fun bh => ?_))
  ·
   rw [bh, cond_true] at H
   refine wp_seq (wp_region_from (Rk 0 2 [(tI 3 1), (2, .one (.c (.nilptr)))] bo a9 fun gb d9 => ?_))
   refine wf (wp_ret ?_)
   obtain rfl := Option.some.inj H
   exact rt (.tup [.c (.nilptr), .c (.int .i64 1)]) d9 a9 ⟨_, _, rfl, rfl, rfl⟩
  ·
   rw [bh, cond_false] at H
   refine wp_skip (wp_seq (wp_region_from (wl fun K hK => ?_)))
   refine wp_makeMap bo a9 rfl rfl (by decide) fun a ff fu (ed : Kn 69 [] [(17, .one (.c (.map (some a)))), (tB 13 (!x15)), (tS 0 a_l l.length c_l)] ff) (cl : Mem (Fr.put ⟨w, h, noX⟩ a (some (.map #[] 0))) am [] [] [] (World.alloc fk (.map #[] 0))) => ?_
   have c0 : Ents am (#[] : Array MapEntry).toList 0 ([] : List (Int × Card)) := Ents.nil
   refine hK _ _ ?_
   refine Rk 1 1 [(tA 18 [.map (some a), .slice none 0 0]), (tS 0 a_l l.length c_l)] ed cl fun gd ee => ?_
   refine wl fun K hK => ?_
   refine wb (.agg [.map (some a), .slice none 0 0]) ee cl fun d fg cw (ef : Kn 69 [(d, 0)] [(tP 19 0 0), (tA 18 [.map (some a), .slice none 0 0]), (tS 0 a_l l.length c_l)] fg) (b0 : Mem (Fr.put ⟨w, h, noX⟩ a (some (.map #[] 0))) am [(d, 0)] [⟨[.map (some a), .slice none 0 0], some 108⟩] [] cw) => hK _ _ ?_
   refine Rk 3 1 [(tP 4 0 0), (tS 0 a_l l.length c_l)] ef b0 fun gg eg => ?_
   refine wf (wp_seq (wp_seq (wp_region_from (Rk 0 3 [(tI 22 0), (tI 21 ((l.length : Nat) : Int)), (tS 20 a_l l.length c_l), (tP 4 0 0)] eg b0 fun gh eh => ?_))))
   refine wf ?_
   have ez : Mem (Fr.put ⟨w, h, noX⟩ a (some (.map #[] 0))) am [(d, 0)] [⟨[.map (some a), .slice none 0 0], some 108⟩] [⟨none, 0, 0, 3, 1, [], 0⟩] cw := b0.nilRow 3 1
   have c9 : Cells am ([] : List Int) [] := Cells.nil
   obtain ⟨cr, ca, H⟩ := bnd H
   refine wp_mid' (fun a' w' => ∃ (y : (List Int) × (List (Int × Card))) (z : Option Addr) (aa : Nat) (b9 : List Value) (ax : Array MapEntry) (av : Nat) (b7 : Array Value) (al : Heap), a' = ⟨b7, []⟩ ∧ Kn 69 [(d, 0)] [(tP 4 0 0)] b7 ∧ Mem (Fr.put ⟨w, h, noX⟩ a (some (.map ax av))) al [(d, 0)] [⟨[.map (some a), .slice z y.1.length aa], some 108⟩] [⟨z, y.1.length, aa, 3, 1, b9, 0⟩] w' ∧ Heap.le am al ∧ Cells al y.1 b9 ∧ Ents al ax.toList av y.2 ∧ cr = .go y) ?_ ?_
   ·
    refine wp_block ?_
    refine wp_loop_n (fun e6 a' w' => ∃ (x_v10 : List Int) (x_v11 : Int) (x_v12 : List (Int × Card)) (f : Option Addr) (g : Nat) (ab : List Value) (ae : Array MapEntry) (ad : Nat) (b8 : Array Value) (ag : Heap), a' = ⟨b8, []⟩ ∧ Kn 69 [(d, 0)] (K55m8 x_v11 l a_l c_l) b8 ∧ Mem (Fr.put ⟨w, h, noX⟩ a (some (.map ae ad))) ag [(d, 0)] [⟨(K55c1 a f x_v10 g), some 108⟩] [⟨f, x_v10.length, g, 3, 1, ab, 0⟩] w' ∧ Heap.le am ag ∧ Cells ag x_v10 ab ∧ Ents ag ae.toList ad x_v12 ∧ pit_read_l1 e6 l x_v10 x_v11 x_v12 = some cr) n ?_ ?_
    ·
     exact Exists.intro ([] : List Int) ⟨0, ([] : List (Int × Card)), none, 0, ([]), #[], 0, _, _, rfl, eh.kp, ez, (Heap.le_refl _), c9, c0, ca⟩
    ·
     rintro ap _ fr ⟨x_v10, x_v11, x_v12, f, g, ab, ae, ad, b8, ag, rfl, ei, b1, a8, an, ah, u⟩
     clear ca
     obtain _ | ap := ap
     ·
      rw [pit_read_l1] at u; cases u
     rw [pit_read_l1] at u
     replace hr_l := hr_l.mono a8
     refine wp_seq (wp_region_from (Rk 0 1 ((tB 23 (decide (x_v11 < ((l.length : Nat) : Int)))) :: (K55m8 x_v11 l a_l c_l)) ei b1 fun gj bq => ?_))
     refine wf (wp_seq (wC (decide (x_v11 < ((l.length : Nat) : Int))) bq (fun bj => ?_) (fun bj => ?_)))
     ·
      rw [bj, cond_true] at u
      refine wp_skip (wp_seq (wp_block (wp_seq (wp_region_from ?_))))
      obtain ⟨x24, ex24, u⟩ := bnd u
      obtain ⟨e1, e2, e5⟩ := idx_some ex24
      obtain ⟨m, p, ft, c6, e4, db⟩ := hr_l.get (by decide) e5
      obtain ⟨_, _, rfl, rfl, ⟨_, _, rfl, rfl, ⟨_, _, rfl, rfl, ⟨_, _, rfl, rfl, ⟨_, _, rfl, rfl, rfl⟩⟩⟩⟩⟩ := e4
      have cm : Mem (Fr.put ⟨w, h, noX⟩ a (some (.map ae ad))) ag [(d, 0), (m, p + (x_v11 : Int).toNat * 6)] [⟨(K55c1 a f x_v10 g), some 108⟩, ⟨(K55c4 x24), none⟩] [⟨f, x_v10.length, g, 3, 1, ab, 0⟩] fr := b1.addPlc (cs := (K55c4 x24)) (fun j c hj => db j _ (map_get hj)) rfl (by kernel_rfl) (by kernel_rfl)
      refine R_index 0 (x_v11) rfl rfl (rfl) rfl (by decide) bq (by rfl) (by rfl) (by rfl) c6 (by rfl) e1 e2 (by kernel_rfl) fun fh (ek : Kn 69 [(d, 0), (m, p + (x_v11 : Int).toNat * 6)] ((tP 24 1 0) :: (tB 23 (decide (x_v11 < ((l.length : Nat) : Int)))) :: (K55m8 x_v11 l a_l c_l)) fh) => ?_
      refine Rk 1 1 ((tA 25 (K55c4 x24)) :: (K55m8 x_v11 l a_l c_l)) ek cm fun gl el => ?_
      refine wl fun K hK => ?_
      refine wa K55c3 el cm fun q cv fs (en : Kn 69 [(d, 0), (m, p + (x_v11 : Int).toNat * 6), (q, 0)] ((tP 6 2 0) :: (tA 25 (K55c4 x24)) :: (K55m8 x_v11 l a_l c_l)) cv) (e0 : Mem (Fr.put ⟨w, h, noX⟩ a (some (.map ae ad))) ag [(d, 0), (m, p + (x_v11 : Int).toNat * 6), (q, 0)] [⟨(K55c1 a f x_v10 g), some 108⟩, ⟨(K55c4 x24), none⟩, ⟨K55c3, some 99⟩] [⟨f, x_v10.length, g, 3, 1, ab, 0⟩] fs) => hK _ _ ?_
      refine wl fun K hK => ?_
      refine wst 2 0 (.agg (K55c4 x24)) (K55c4 x24) en e0 fun cx eo (bc : Mem (Fr.put ⟨w, h, noX⟩ a (some (.map ae ad))) ag [(d, 0), (m, p + (x_v11 : Int).toNat * 6), (q, 0)] [⟨(K55c1 a f x_v10 g), some 108⟩, ⟨(K55c4 x24), none⟩, ⟨(K55c4 x24), some 99⟩] [⟨f, x_v10.length, g, 3, 1, ab, 0⟩] cx) => hK _ _ ?_
      have ep : Kn 69 [(d, 0), (m, p + (x_v11 : Int).toNat * 6), (q, 0)] ((tP 6 2 0) :: (K55m8 x_v11 l a_l c_l)) cv := eo.kp
      refine wf (wp_seq (wp_region_G (by kernel_rfl) ?_))
      replace bc := bc.drew
      refine wpG_of_D [] [(d, 0), (m, p + (x_v11 : Int).toNat * 6), (q, 0)] [⟨(K55c1 a f x_v10 g), some 108⟩, ⟨(K55c4 x24), none⟩, ⟨(K55c4 x24), some 99⟩] ?_
      refine Dr [0, 1, 2, 3, 4, 5] (dn 5) (K55m9 x24 a x_v11 l a_l c_l) ep bc fun fi er => ?_
      obtain ⟨x33, ex33, u⟩ := bnd u
      have ce : Kn 69 [(d, 0), (m, p + (x_v11 : Int).toNat * 6), (q, 0), (0, 0)] (K55m9 x24 a x_v11 l a_l c_l) fi := er.push (0, 0) (by kernel_rfl)
      have bd : Mem (Fr.put ⟨w, h, noX⟩ a (some (.map ae ad))) ag [(d, 0), (m, p + (x_v11 : Int).toNat * 6), (q, 0), (0, 0)] [⟨(K55c1 a f x_v10 g), some 108⟩, ⟨(K55c4 x24), none⟩, ⟨(K55c4 x24), some 99⟩, ⟨[], none⟩] [⟨f, x_v10.length, g, 3, 1, ab, 0⟩] (World.drew cx) := bc.addPlc (b := 0) (o := 0) (cs := []) (fun j c hj => by simp at hj) rfl (by kernel_rfl) (by kernel_rfl)
      refine D_ext (e' := [(d, 0), (m, p + (x_v11 : Int).toNat * 6), (q, 0), (0, 0)]) (pl' := [⟨(K55c1 a f x_v10 g), some 108⟩, ⟨(K55c4 x24), none⟩, ⟨(K55c4 x24), some 99⟩, ⟨[], none⟩]) (fun _ hp => hp.pop (Nat.le_of_eq rfl) (by kernel_rfl)) ?_
      refine D_share (fun W => ∀ (s : Nat), ∀ a' w', (∃ (b4 : Array Value) (az : Heap), a' = ⟨b4, []⟩ ∧ Kn 69 (K55e2 d m p x_v11 q s) ((tP 7 3 0) :: (tB 35 x33.2) :: (tA 34 (K55c5 x33)) :: (tP 6 2 0) :: (K55m8 x_v11 l a_l c_l)) b4 ∧ Mem (Fr.put ⟨w, h, noX⟩ a (some (.map ae ad))) az (K55e2 d m p x_v11 q s) (K55p6 a f x_v10 g x24) [⟨f, x_v10.length, g, 3, 1, ab, 0⟩] w' ∧ Heap.le ag az) → W (K55e2 d m p x_v11 q s) (K55p6 a f x_v10 g x24) [9, 8, 7, 6, 10, 5, 4, 3, 2, 1, 0] a' w') ?_ (fun cp => ?_)
      ·
       intro s
       rintro _ gq ⟨b4, az, rfl, dd, ex, a1⟩
       replace hr_l := hr_l.mono a1
       replace ah := ah.mono a1
       replace an := an.mono a1
       refine D_sync 11 rfl (by kernel_rfl) (by decide) (rfl) (by kernel_rfl) fun K hK => ?_
       refine wst 3 0 (.agg (K55c5 x33)) (K55c5 x33) dd ex fun fj de (ao : Mem (Fr.put ⟨w, h, noX⟩ a (some (.map ae ad))) az (K55e2 d m p x_v11 q s) (K55p7 a f x_v10 g x24 x33) [⟨f, x_v10.length, g, 3, 1, ab, 0⟩] fj) => hK _ _ ?_
       refine wpG_of_D [] (K55e2 d m p x_v11 q s) (K55p7 a f x_v10 g x24 x33) ?_
       refine Dr [12] [12, 11, 9, 8, 7, 6, 10, 5, 4, 3, 2, 1, 0] ((tB 8 x33.2) :: (tP 7 3 0) :: (tP 6 2 0) :: (K55m8 x_v11 l a_l c_l)) de ao fun fz df => ?_
       refine wpD_end (by kernel_rfl) (wp_seq (wp_seq ?_))
       obtain ⟨cq, a5, u⟩ := bnd u
       refine wp_mid' (fun a' w' => ∃ (b5 : Array Value) (af : Heap), a' = ⟨b5, []⟩ ∧ Kn 69 (K55e2 d m p x_v11 q s) [(tB 8 x33.2), (tP 6 2 0), (tI 22 x_v11), (tI 21 ((l.length : Nat) : Int)), (tS 20 a_l l.length c_l), (tP 4 0 0), (tB 41 cq)] b5 ∧ Mem (Fr.put ⟨w, h, noX⟩ a (some (.map ae ad))) af (K55e2 d m p x_v11 q s) (K55p7 a f x_v10 g x24 x33) [⟨f, x_v10.length, g, 3, 1, ab, 0⟩] w' ∧ Heap.le az af) ?_ ?_
       ·
        refine wp_region_from (Rk 0 2 ((tB 37 x33.2) :: (tB 8 x33.2) :: (tP 7 3 0) :: (tP 6 2 0) :: (K55m8 x_v11 l a_l c_l)) df ao fun ct cf => ?_)
        rcases Bool.eq_false_or_eq_true (x33.2) with a0 | a0
        ·
         rw [a0, cond_true] at a5
         have dg : Kn 69 (K55e2 d m p x_v11 q s) ((tB 37 true) :: (tB 8 x33.2) :: (tP 7 3 0) :: (tP 6 2 0) :: (K55m8 x_v11 l a_l c_l)) ct := (cf.setB 37 true (by rfl) a0).kp
         refine Rk 2 4 ((tB 41 (!((x33.1.bus == x24.bus) && ((x33.1.number == x24.number) && ((x33.1.minute == x24.minute) && ((x33.1.kind.n == x24.kind.n) && ((x33.1.part == x24.part) && ((x33.1.sg == x24.sg) && true)))))))) :: (tB 8 x33.2) :: (tP 6 2 0) :: (K55m8 x_v11 l a_l c_l)) dg ao fun f0 dh => ?_
         refine wf ?_
         obtain rfl := Option.some.inj a5
         exact Exists.intro _ ⟨_, rfl, dh.kp, ao, (Heap.le_refl _)⟩
        ·
         rw [a0, cond_false] at a5
         have di : Kn 69 (K55e2 d m p x_v11 q s) ((tB 37 false) :: (tB 8 x33.2) :: (tP 7 3 0) :: (tP 6 2 0) :: (K55m8 x_v11 l a_l c_l)) ct := (cf.setB 37 false (by rfl) a0).kp
         refine Rk 2 4 ((tB 41 false) :: (tB 8 x33.2) :: (tP 6 2 0) :: (K55m8 x_v11 l a_l c_l)) di ao fun f1 dj => ?_
         refine wf ?_
         obtain rfl := Option.some.inj a5
         exact Exists.intro _ ⟨_, rfl, dj.kp, ao, (Heap.le_refl _)⟩
       ·
        rintro _ gr ⟨b5, af, rfl, bm, ai, a7⟩
        replace ah := ah.mono a7
        replace an := an.mono a7
        refine wC (cq) bm (fun bf => ?_) (fun bf => ?_)
        ·
         rw [bf, cond_true] at u
         refine wp_seq (wp_region_from (Rk 0 2 [(tI 3 6), (2, .one (.c (.nilptr)))] bm ai fun f2 dk => ?_))
         refine wf (wp_ret ?_)
         obtain rfl := Option.some.inj u
         obtain rfl := Option.some.inj H
         exact rt (.tup [.c (.nilptr), .c (.int .i64 6)]) dk ai ⟨_, _, rfl, rfl, rfl⟩
        ·
         rw [bf, cond_false] at u
         refine wp_skip (wp_seq (wp_region_from (Rk 0 2 ((tB 43 (!x33.2)) :: (tP 6 2 0) :: (K55m8 x_v11 l a_l c_l)) bm ai fun f3 bn => ?_)))
         refine wf (wC ((!x33.2)) bn (fun bg => ?_) (fun bg => ?_))
         ·
          rw [bg, cond_true] at u
          refine wp_seq (wp_region_G (by kernel_rfl) ?_)
          replace ai := ai.drew
          refine wpG_of_D [] (K55e2 d m p x_v11 q s) (K55p7 a f x_v10 g x24 x33) ?_
          refine Dr [0, 1, 2, 3, 4, 5, 6] (dn 6) ((tA 50 (K55c4 x24)) :: (tI 49 x24.number) :: (47, .one (.c (.map (some a)))) :: (tP 6 2 0) :: (K55m8 x_v11 l a_l c_l)) bn ai fun cu dl => ?_
          refine Dl 7 fun K hK => ?_
          refine wp_updateP (KT := 3) (E := 99) (k := (x24.number : Int)) (x := (x24 : Card)) (.c (.int .i64 x24.number)) (.agg (K55c4 x24)) dl ai rfl rfl (by rfl) (by rfl) (by rfl) (by kernel_rfl) (KL.int (by kernel_rfl)) ah rfl ⟨_, rfl, ((rep_pair rep_int (rep_pair rep_int (rep_pair rep_int (rep_pair rep_ik (rep_pair rep_int rep_int))))) : rep af (x24 : Card) _)⟩ fun aw au fl cz (dm : Kn 69 (K55e2 d m p x_v11 q s) ((tA 50 (K55c4 x24)) :: (tI 49 x24.number) :: (47, .one (.c (.map (some a)))) :: (tP 6 2 0) :: (K55m8 x_v11 l a_l c_l)) cu) (a2 : Mem (Fr.put ⟨w, h, noX⟩ a (some (.map aw au))) af (K55e2 d m p x_v11 q s) (K55p7 a f x_v10 g x24 x33) [⟨f, x_v10.length, g, 3, 1, ab, 0⟩] fl) => hK _ _ a2.plOk ?_
          have dp : Kn 69 (K55e2 d m p x_v11 q s) ((tP 6 2 0) :: (K55m8 x_v11 l a_l c_l)) cu := dm.kp
          refine wpD_end (by kernel_rfl) (wp_region_G (by kernel_rfl) ?_)
          replace a2 := a2.drew
          refine wpG_of_D [] (K55e2 d m p x_v11 q s) (K55p7 a f x_v10 g x24 x33) ?_
          refine Dr [0, 1, 2, 3, 4, 5, 6] (dn 6) ((tI 57 x24.number) :: (tS 55 f x_v10.length g) :: (tP 51 0 0) :: (K55m8 x_v11 l a_l c_l)) dp a2 fun f4 dq => ?_
          refine Dl 7 fun K hK => ?_
          refine wS 3 1 [.int .i64 x24.number] dq a2 fun aq e7 fm (dr : Kn 69 (K55e2 d m p x_v11 q s) ((tS 58 aq 1 1) :: (tI 57 x24.number) :: (tS 55 f x_v10.length g) :: (tP 51 0 0) :: (K55m8 x_v11 l a_l c_l)) e7) (bt : Mem (Fr.put ⟨w, h, noX⟩ a (some (.map aw au))) af (K55e2 d m p x_v11 q s) (K55p7 a f x_v10 g x24 x33) [⟨f, x_v10.length, g, 3, 1, ab, 0⟩, ⟨aq, 1, 1, 3, 1, ([.int .i64 x24.number] : List Value), 0⟩] fm) => ?_
          have bk : Cells af ([x24.number] : List Int) ([.int .i64 x24.number] : List Value) := ⟨_, _, rfl, (rep_int : rep af (x24.number : Int) _), rfl⟩
          refine hK _ _ bt.plOk ?_
          obtain ⟨x59, ex59, u⟩ := bnd u
          obtain ⟨b3, es⟩ := app_some ex59
          refine Dl 8 fun K hK => ?_
          refine wp_append 0 8 1 _ (x59.length) _ ([.int .i64 x24.number] : List Value) dr bt rfl rfl (by decide) rfl (by rfl) (by kernel_rfl) (by rfl) (by rfl) (Cells.len bk) (bt.rowCell (i := 1) rfl) bk.one (by rw [b3]; simp <;> omega) (by rw [b3]; exact es) (by decide) fun aj ak cb e9 fn dc (ds : Kn 69 (K55e2 d m p x_v11 q s) ((tS 59 aj x59.length ak) :: (tS 58 aq 1 1) :: (tI 57 x24.number) :: (tS 55 f x_v10.length g) :: (tP 51 0 0) :: (K55m8 x_v11 l a_l c_l)) e9) (bu : Mem (Fr.put ⟨w, h, noX⟩ a (some (.map aw au))) af (K55e2 d m p x_v11 q s) (K55p7 a f x_v10 g x24 x33) [⟨aj, x59.length, ak, 3, 1, (ab ++ ([.int .i64 x24.number] : List Value)), cb⟩, ⟨aq, 1, 1, 3, 1, ([.int .i64 x24.number] : List Value), 0⟩] fn) => ?_
          have c8 : Cells af x59 (ab ++ ([.int .i64 x24.number] : List Value)) := by rw [b3]; exact Cells.append an bk
          obtain rfl : cb = 0 := Nat.le_zero.1 dc
          refine hK _ _ bu.plOk ?_
          refine Dr [9, 10] (dn 10) ((tP 61 0 1) :: (tS 59 aj x59.length ak) :: (K55m8 x_v11 l a_l c_l)) ds bu fun fa dt => ?_
          refine D_sync 11 rfl (by kernel_rfl) (by decide) (rfl) (by kernel_rfl) fun K hK => ?_
          refine wst 0 1 (.c (.slice aj x59.length ak)) [.map (some a), .slice aj x59.length ak] dt bu fun fo du (ch : Mem (Fr.put ⟨w, h, noX⟩ a (some (.map aw au))) af (K55e2 d m p x_v11 q s) [⟨[.map (some a), .slice aj x59.length ak], some 108⟩, ⟨(K55c4 x24), none⟩, ⟨(K55c4 x24), some 99⟩, ⟨(K55c5 x33), some 99⟩] [⟨aj, x59.length, ak, 3, 1, (ab ++ ([.int .i64 x24.number] : List Value)), 0⟩, ⟨aq, 1, 1, 3, 1, ([.int .i64 x24.number] : List Value), 0⟩] fo) => hK _ _ ?_
          have dw : Kn 69 (K55e2 d m p x_v11 q s) (K55m8 x_v11 l a_l c_l) fa := du.kp
          refine wpG_end (by kernel_rfl) (wp_region_from (Rk 0 2 [(tI 22 (IntKind.i64.wrap (x_v11 + 1))), (tI 21 ((l.length : Nat) : Int)), (tS 20 a_l l.length c_l), (tP 4 0 0)] dw ch fun f5 dx => ?_))
          refine wf ?_
          exact Exists.intro ap ⟨Nat.lt_succ_self _, Exists.intro x59 ⟨(IntKind.i64.wrap (x_v11 + 1)), (put? x_v12 x24.number x24), aj, ak, (ab ++ ([.int .i64 x24.number] : List Value)), aw, au, _, _, rfl, ((dx.keep [22, 21, 20, 4] (by rfl)).cut 1 (by kernel_rfl)), ((ch.cutRw 1).cutPl 1 (by kernel_rfl)), (Heap.le_trans a8 (Heap.le_trans a1 a7)), c8, cz, u⟩⟩
         ·
          rw [bg, cond_false] at u
          refine wp_skip (wp_region_from (Rk 0 2 [(tI 22 (IntKind.i64.wrap (x_v11 + 1))), (tI 21 ((l.length : Nat) : Int)), (tS 20 a_l l.length c_l), (tP 4 0 0)] bn ai fun f6 dy => ?_))
          refine wf ?_
          exact Exists.intro ap ⟨Nat.lt_succ_self _, Exists.intro x_v10 ⟨(IntKind.i64.wrap (x_v11 + 1)), x_v12, f, g, ab, ae, ad, _, _, rfl, ((dy.keep [22, 21, 20, 4] (by rfl)).cut 1 (by kernel_rfl)), (ai.cutPl 1 (by kernel_rfl)), (Heap.le_trans a8 (Heap.le_trans a1 a7)), an, ah, u⟩⟩
      refine D_two 6 10 rfl rfl (by kernel_rfl) (by decide) (rfl) (rfl) (fun K hK => ?_) (fun K hK => ?_)
      ·
       refine wc [.c (.map (some a)), .c (.int .i64 x24.number)] ce bd (pit_cards_card_x ap bd.has (IMap.mk x_v12) (bd.ext (Fr.put_X _ _ _)) ah x24.number ex33) fun gn c4 gs c2 ev bv => ?_
       obtain ⟨_, _, rfl, ⟨_, rfl, ⟨_, _, rfl, rfl, ⟨_, _, rfl, rfl, ⟨_, _, rfl, rfl, ⟨_, _, rfl, rfl, ⟨_, _, rfl, rfl, rfl⟩⟩⟩⟩⟩⟩, rfl⟩ := c2
       refine ⟨.tup [.agg (K55c5 x33), .c (.bool x33.2)], rfl, fun fb (dz : Kn 69 [(d, 0), (m, p + (x_v11 : Int).toNat * 6), (q, 0), (0, 0)] ((33, .tup [.agg (K55c5 x33), .c (.bool x33.2)]) :: (K55m9 x24 a x_v11 l a_l c_l)) fb) => hK _ _ bv.plOk ?_⟩
       refine Dr [7, 8, 9] (dn 9) ((tB 35 x33.2) :: (tA 34 (K55c5 x33)) :: (tP 6 2 0) :: (K55m8 x_v11 l a_l c_l)) dz bv fun f8 d0 => ?_
       refine Dl 10 fun K hK => ?_
       refine waA 3 K55c3 d0 bv fun a4 fc fp (d1 : Kn 69 [(d, 0), (m, p + (x_v11 : Int).toNat * 6), (q, 0), (a4, 0)] ((tP 7 3 0) :: (tB 35 x33.2) :: (tA 34 (K55c5 x33)) :: (tP 6 2 0) :: (K55m8 x_v11 l a_l c_l)) fc) (ci : Mem (Fr.put ⟨w, h, noX⟩ a (some (.map ae ad))) c4 [(d, 0), (m, p + (x_v11 : Int).toNat * 6), (q, 0), (a4, 0)] (K55p6 a f x_v10 g x24) [⟨f, x_v10.length, g, 3, 1, ab, 0⟩] fp) => hK _ _ (PlOk.unset 3 rfl (by kernel_rfl) ci.plOk) (D_ext (e' := [(d, 0), (m, p + (x_v11 : Int).toNat * 6), (q, 0), (a4, 0)]) (pl' := (K55p6 a f x_v10 g x24)) (fun _ hp => hp.unset 3 rfl (by kernel_rfl)) ?_)
       refine D_perm [9, 8, 7, 6, 10, 5, 4, 3, 2, 1, 0] (by kernel_rfl) (by rfl) (cp a4 _ _ ?_)
       exact Exists.intro _ ⟨_, rfl, d1.kp, ci, ev⟩
      ·
       refine waA 3 K55c3 ce bd fun ar fd fq (d2 : Kn 69 [(d, 0), (m, p + (x_v11 : Int).toNat * 6), (q, 0), (ar, 0)] ((tP 7 3 0) :: (K55m9 x24 a x_v11 l a_l c_l)) fd) (ba : Mem (Fr.put ⟨w, h, noX⟩ a (some (.map ae ad))) ag [(d, 0), (m, p + (x_v11 : Int).toNat * 6), (q, 0), (ar, 0)] (K55p6 a f x_v10 g x24) [⟨f, x_v10.length, g, 3, 1, ab, 0⟩] fq) => hK _ _ (PlOk.unset 3 rfl (by kernel_rfl) ba.plOk) (D_ext (e' := [(d, 0), (m, p + (x_v11 : Int).toNat * 6), (q, 0), (ar, 0)]) (pl' := (K55p6 a f x_v10 g x24)) (fun _ hp => hp.unset 3 rfl (by kernel_rfl)) ?_)
       refine Dl 6 fun K hK => ?_
       refine wc [.c (.map (some a)), .c (.int .i64 x24.number)] d2 ba (pit_cards_card_x ap ba.has (IMap.mk x_v12) (ba.ext (Fr.put_X _ _ _)) ah x24.number ex33) fun gp fv gu c3 ew bw => ?_
       obtain ⟨_, _, rfl, ⟨_, rfl, ⟨_, _, rfl, rfl, ⟨_, _, rfl, rfl, ⟨_, _, rfl, rfl, ⟨_, _, rfl, rfl, ⟨_, _, rfl, rfl, rfl⟩⟩⟩⟩⟩⟩, rfl⟩ := c3
       refine ⟨.tup [.agg (K55c5 x33), .c (.bool x33.2)], rfl, fun fe (d4 : Kn 69 [(d, 0), (m, p + (x_v11 : Int).toNat * 6), (q, 0), (ar, 0)] ((33, .tup [.agg (K55c5 x33), .c (.bool x33.2)]) :: (tP 7 3 0) :: (K55m9 x24 a x_v11 l a_l c_l)) fe) => hK _ _ bw.plOk ?_⟩
       refine Dr [7, 8, 9] [9, 8, 7, 6, 10, 5, 4, 3, 2, 1, 0] ((tB 35 x33.2) :: (tA 34 (K55c5 x33)) :: (tP 7 3 0) :: (tP 6 2 0) :: (K55m8 x_v11 l a_l c_l)) d4 bw fun f9 d5 => ?_
       refine D_perm [9, 8, 7, 6, 10, 5, 4, 3, 2, 1, 0] (by kernel_rfl) (by rfl) (cp ar _ _ ?_)
       exact Exists.intro _ ⟨_, rfl, d5.kp, bw, ew⟩
     ·
      rw [bj, cond_false] at u
      refine wp_exit ?_
      obtain rfl := Option.some.inj u
      exact Exists.intro (x_v10, x_v12) ⟨f, g, ab, ae, ad, _, _, rfl, bq.kp, b1, a8, an, ah, rfl⟩
   ·
    rintro _ gv ⟨y, z, aa, b9, ax, av, b7, al, rfl, d6, cj, fx, da, be, rfl⟩
    rw [Ex.bind_go] at H
    refine wp_seq (wp_region_from (Rk 0 4 [(tS 66 z y.1.length aa), (tP 4 0 0)] d6 cj fun ga d7 => ?_))
    obtain ⟨ac, cy, H⟩ := bnd H
    obtain ⟨et, co⟩ := sortO_some cy
    refine wl fun K hK => ?_
    refine wp_sort Try.sorts 0 d7 cj rfl rfl (by decide) (by rfl) (fun _ _ => by kernel_rfl) rfl rfl rfl rfl da et fun b6 a3 (d8 : Kn 69 [(d, 0)] [(67, .tup []), (tS 66 z y.1.length aa), (tP 4 0 0)] b6) (ey : Mem (Fr.put ⟨w, h, noX⟩ a (some (.map ax av))) al [(d, 0)] [⟨[.map (some a), .slice z y.1.length aa], some 108⟩] [⟨z, y.1.length, aa, 3, 1, (List.map (Value.int .i64) (sortI y.1)), 0⟩] a3) => ?_
    have bl : Cells al ac (List.map (Value.int .i64) (sortI y.1)) := by rw [co]; exact cells_ofInts _ _
    have cn : y.1.length = ac.length := by rw [co, sortI_len]
    have ea : Kn 69 [(d, 0)] [(67, .tup []), (66, .one (.c (.slice z ac.length aa))), (4, .one (.c (.ptr 0 0)))] b6 := by rw [← cn]; exact d8
    have ck : Mem (Fr.put ⟨w, h, noX⟩ a (some (.map ax av))) al [(d, 0)] [⟨[.map (some a), .slice z ac.length aa], some 108⟩] [⟨z, ac.length, aa, 3, 1, (List.map (Value.int .i64) (sortI y.1)), 0⟩] a3 := by rw [← cn]; exact ey
    refine hK _ _ ?_
    have eb : Kn 69 [(d, 0)] [(tP 4 0 0)] b6 := ea.kp
    refine wf (wp_seq (wp_region_from (Rk 0 3 [(tI 3 0), (tP 2 0 0)] eb ck fun gc ec => ?_)))
    refine wf (wp_ret ?_)
    obtain ⟨c5, cg, ay, bb⟩ := ck.settleMapP
    replace bb : Mem (Fr.put ⟨w, h, noX⟩ a none) c5 [(d, 0)] [⟨[.map (some a), .slice z ac.length aa], some 108⟩] [⟨z, ac.length, aa, 3, 1, (List.map (Value.int .i64) (sortI y.1)), 0⟩] a3 := bb
    obtain ⟨cc, br, e3, bx⟩ := bb.settle (i := 0) rfl
    replace bl := bl.mono (Heap.le_trans cg br)
    replace ay := br _ _ _ ay
    replace bx : Mem (Fr.put ⟨w, h, noX⟩ a none) cc [(d, 0)] [⟨[.map (some a), .slice z ac.length aa], some 108⟩] [⟨z, ac.length, aa, 3, 1, (List.map (Value.int .i64) (sortI y.1)), ((List.map (Value.int .i64) (sortI y.1)) : List Value).length⟩] a3 := bx
    have b2 : RepS cc z aa ac := ⟨_, bl, e3, bb.rowCap (i := 0) rfl⟩
    obtain ⟨a6, bs, cd, bz⟩ := bx.settlePlc (i := 0) rfl
    replace be := be.mono (Heap.le_trans (Heap.le_trans cg br) bs)
    replace b2 := b2.mono bs
    replace ay := bs _ _ _ ay
    replace bz : Mem (Fr.put ⟨w, h, noX⟩ a none) a6 [(d, 0)] [⟨[.map (some a), .slice z ac.length aa], none⟩] [⟨z, ac.length, aa, 3, 1, (List.map (Value.int .i64) (sortI y.1)), ((List.map (Value.int .i64) (sortI y.1)) : List Value).length⟩] a3 := bz
    have c7 : BoxS a6 d ((Book.mk (IMap.mk y.2) ac) : Book) := BoxS.of (e := [(d, 0)]) (cs := [.map (some a), .slice z ac.length aa]) ((rep_pair ⟨_, _, _, rfl, ay, be⟩ (rep_slice b2)) : rep a6 ((Book.mk (IMap.mk y.2) ac) : Book) _) rfl cd
    have fw : CellsAt a6 d [.map (some a), .slice z ac.length aa] := CellsAt.of (e := [(d, 0)]) (cs := [.map (some a), .slice z ac.length aa]) rfl cd
    obtain rfl := Option.some.inj H
    exact rt (.tup [.c (.ptr 0 0), .c (.int .i64 0)]) ec bz ⟨_, _, rfl, ⟨_, rfl, c7⟩, rfl⟩
end Go.Proofs.Ytkbphdjemgibnaa
