/- Each call computes its plain function. -/
import Derived.Test.YtkbphdjemgibnaaProg
import Derived.Test.YtkbphdjemgibnaaSsP0
set_option linter.all false
namespace Go.Proofs.Ytkbphdjemgibnaa
open Go Go.RowKit
open Rep (rep)
open KRep (kv)
open VRep (rv)
set_option maxRecDepth 100000 in
set_option maxHeartbeats 4000000 in
theorem law_list_ok (n : Nat) {h : Heap} {w : World} (hh : Has h w) (l : List Int) {a_l : Option Addr} {c_l : Nat} (hr_l : RepS h a_l c_l l) {r : List Int} (H : law_list n l = some r) :
  Calls Try.prog 31 #[.slice a_l l.length c_l] w (Ret (fun h v => ∃ a c, v = .slice a r.length c ∧ RepS h a c r) h w) := by
 refine enter 6 [.c (.slice a_l l.length c_l)] Try.func31 rfl rfl rfl rfl fun t hk => ?_
 have hm := Mem.begin h w hh
 unfold law_list at H
 refine wp_seq (wp_region_from (Rk 0 1 [(tS 0 a_l l.length c_l)] hk hm fun am aa => ?_))
 refine wf (wp_seq (wp_region_from (wl fun K hK => ?_)))
 refine wS 3 1 [] aa hm fun f ak al (ad : Kn 6 [] [(tS 3 f 0 0), (tS 0 a_l l.length c_l)] ak) (o : Mem ⟨w, h, noX⟩ h [] [] [⟨f, 0, 0, 3, 1, ([] : List Value), 0⟩] al) => ?_
 have x : Cells h ([] : List Int) ([] : List Value) := Cells.nil
 refine hK _ _ ?_
 refine Rk 1 1 [(tS 4 a_l l.length c_l), (tS 3 f 0 0)] ad o fun ao z => ?_
 obtain ⟨e, g, ai, _⟩ := id hr_l
 obtain ⟨x5, ex5, H⟩ := bnd H
 obtain ⟨p, ae⟩ := app_some ex5
 refine wl fun K hK => ?_
 refine wp_append 0 8 l.length _ (x5.length) _ e z o rfl rfl (by decide) rfl (by rfl) (by kernel_rfl) (by rfl) (by rfl) (Cells.len g) (ai.cell o.has g.one) g.one (by rw [p]; simp <;> omega) (by rw [p]; exact ae) (by decide) fun b d q aj u y (ab : Kn 6 [] [(tS 5 b x5.length d), (tS 4 a_l l.length c_l), (tS 3 f 0 0)] aj) (k : Mem ⟨w, h, noX⟩ h [] [] [⟨b, x5.length, d, 3, 1, (([] : List Value) ++ e), q⟩] u) => ?_
 have j : Cells h x5 (([] : List Value) ++ e) := by rw [p]; exact Cells.append x g
 obtain rfl : q = 0 := Nat.le_zero.1 y
 refine hK _ _ ?_
 refine Rk 3 1 [(tS 2 b x5.length d)] ab k fun an ac => ?_
 refine wf (wp_ret ?_)
 obtain ⟨s, af, ah, m⟩ := k.settle (i := 0) rfl
 replace j := j.mono af
 replace m : Mem ⟨w, h, noX⟩ s [] [] [⟨b, x5.length, d, 3, 1, (([] : List Value) ++ e), ((([] : List Value) ++ e) : List Value).length⟩] u := m
 have ag : RepS s b d x5 := ⟨_, j, ah, k.rowCap (i := 0) rfl⟩
 obtain rfl := Option.some.inj H
 exact rt (.one (.c (.slice b x5.length d))) ac m ⟨_, _, rfl, ag⟩
end Go.Proofs.Ytkbphdjemgibnaa
