/- Ranges over settled maps, in whichever order. -/
import Derived.Test.YtokchpjijlebiaaSymU
set_option linter.all false
namespace Go.Proofs.Ytokchpjijlebiaa
open Go Go.RowKit
open Rep (rep)
open KRep (kv)
open VRep (rv)
theorem All2.split {α β : Type} {R : α → β → Prop} : ∀ {as1 : List α} {a : α} {as2 : List α} {bs : List β}, All2 R (as1 ++ a :: as2) bs → ∃ bs1 b bs2, bs = bs1 ++ b :: bs2 ∧ All2 R as1 bs1 ∧ R a b ∧ All2 R as2 bs2
  | [], _, _, _, .cons h1 h2 => ⟨[], _, _, rfl, .nil, h1, h2⟩
  | _ :: as1, a, as2, _, .cons h1 h2 => by
    obtain ⟨bs1, b, bs2, rfl, q1, q2, q3⟩ := All2.split h2
    exact ⟨_ :: bs1, b, bs2, rfl, .cons h1 q1, q2, q3⟩
section
variable {KK α : Type} [KRep KK] [VRep α]
/-- What is left of a range reads so. -/
def IterS (h : Heap) (es : Array MapEntry) (seen : Array Nat) (rem : List (KK × α)) : Prop :=
  ∃ l, All2 (fun (e : MapEntry) (p : KK × α) => e.key = kv p.1 ∧ rv h p.2 e.val) (leftOf es seen).toList l ∧ l.Perm rem
theorem IterS.mono {h h' : Heap} {es : Array MapEntry} {seen : Array Nat} {rem : List (KK × α)} (H : IterS h es seen rem) (hle : Heap.le h h') : IterS h' es seen rem := by
  obtain ⟨l, h1, h2⟩ := H
  exact ⟨l, h1.imp fun _ _ ⟨q1, q2⟩ => ⟨q1, VRep.mono hle q2⟩, h2⟩
theorem leftOf_nil (es : Array MapEntry) : leftOf es #[] = es := by
  unfold leftOf
  simp
theorem IterS.start {h : Heap} {es : Array MapEntry} {c : Nat} {l : List (KK × α)} (H : Ents h es.toList c l) : IterS h es #[] l := ⟨l, by rw [leftOf_nil]; exact H.all, List.Perm.refl _⟩
theorem IterS.nil {h : Heap} {es : Array MapEntry} {seen : Array Nat} {rem : List (KK × α)} (H : IterS h es seen rem) (h0 : (leftOf es seen).size = 0) : rem = [] := by
  obtain ⟨l, h1, h2⟩ := H
  have : (leftOf es seen).toList = [] := by
    apply List.eq_nil_of_length_eq_zero
    simpa using h0
  rw [this] at h1
  cases h1
  exact List.nil_perm.1 h2
theorem filter_out {L1 L2 : List MapEntry} {en : MapEntry} (hn : ((L1 ++ en :: L2).map (·.born)).Nodup) : (L1 ++ en :: L2).filter (fun e => !(e.born == en.born)) = L1 ++ L2 := by
  rw [List.map_append, List.map_cons, List.nodup_append] at hn
  obtain ⟨_, h2, h3⟩ := hn
  have h4 := (List.nodup_cons.1 h2).1
  rw [List.filter_append, List.filter_cons]
  have e1 : L1.filter (fun e => !(e.born == en.born)) = L1 := List.filter_eq_self.2 fun e he => by
    have := h3 e.born (List.mem_map.2 ⟨e, he, rfl⟩) en.born (by simp)
    simpa using this
  have e2 : L2.filter (fun e => !(e.born == en.born)) = L2 := List.filter_eq_self.2 fun e he => by
    have : e.born ≠ en.born := fun hh => h4 (by rw [← hh]; exact List.mem_map.2 ⟨e, he, rfl⟩)
    simpa using this
  rw [e1, e2]
  simp
theorem leftOf_push (es : Array MapEntry) (seen : Array Nat) (b : Nat) : (leftOf es (seen.push b)).toList = (leftOf es seen).toList.filter fun e => !(e.born == b) := by
  unfold leftOf
  rw [Array.toList_filter, Array.toList_filter, List.filter_filter]
  congr 1
  funext e
  simp only [Array.contains_push]
  cases seen.contains e.born <;> cases hb : (e.born == b) <;> simp_all
theorem IterS.step {h : Heap} {es : Array MapEntry} {seen : Array Nat} {rem : List (KK × α)} (H : IterS h es seen rem) (hn : (es.toList.map (·.born)).Nodup) {en : MapEntry} (he : en ∈ (leftOf es seen).toList) :
    ∃ k x rem', en.key = kv k ∧ rv h x en.val ∧ rem.Perm ((k, x) :: rem') ∧ IterS h es (seen.push en.born) rem' := by
  obtain ⟨l, h1, h2⟩ := H
  obtain ⟨L1, L2, hL⟩ := List.append_of_mem he
  have hsub : ((leftOf es seen).toList.map (·.born)).Nodup := by
    unfold leftOf
    rw [Array.toList_filter]
    exact hn.sublist (List.filter_sublist.map _)
  rw [hL] at h1 hsub
  obtain ⟨l1, p, l2, rfl, q1, ⟨q2, q3⟩, q4⟩ := All2.split h1
  refine ⟨p.1, p.2, l1 ++ l2, q2, q3, ?_, ⟨l1 ++ l2, ?_, List.Perm.refl _⟩⟩
  · exact h2.symm.trans List.perm_middle
  · rw [leftOf_push, hL, filter_out hsub]
    exact q1.append q4
end
section
variable {P : Program} {Q : Exit → Act → World → Prop} {N : Nat} {F : Fr} {h : Heap} {e : Env} {pl : List Plc} {rw : List Row} {w w' : World} {m : TM} {t : Array Value} {dd : List Deferred} {o : Oper} {d : Nat} {K : Act → World → Prop} {KK α : Type} [KRep KK] [VRep α]
theorem Mem.dropX {r : Nat} {o : Option Obj} (hX : F.X r = none) (hm : Mem (Fr.put F r o) h e pl rw w) : Mem F h e pl rw w := by
  refine hm.lessX F.X fun b x hx => ?_
  have : b ≠ r := fun hb => by rw [hb, hX] at hx; cases hx
  rw [Fr.put_ne _ _ this]
  exact hx
theorem wp_rangeP {T KT E : TypeId} {x : Operand} {b c : Nat} {es : Array MapEntry} {l : List (KK × α)} (hk : Kn N e m t) (hm : Mem F h e pl rw w) (hop : o.op = .range T x) (hd : o.dst = some d) (hlt : d < N) (hx : evA m x = some (.c (.map (some b))))
    (hT : P.underlying T = some (.map KT E)) (hb : h b 0 = some (encMap es c)) (H : Ents h es.toList c l) (hok : okAll e pl m = true)
    (hK : ∀ r t' w', F.X r = none → IterS h es #[] l → Kn N (e ++ [(r, 0)]) (m.put d (.one (.c (.ptr e.length 0)))) t' → Mem (Fr.put F r (some (.mapIter (some b) c #[] c))) h (e ++ [(r, 0)]) (pl ++ [⟨[], none⟩]) rw w' → K ⟨t', dd⟩ w') : o.wp P ⟨t, dd⟩ w K Q := by
  obtain ⟨h1, h2, h3⟩ := okAll_of hok
  exact wp_rangeMap hk hm hop hd hlt hx hT (hm.has.map hb) h1 h2 h3 fun r t' w' a1 a2 a3 _ => hK r t' w' a1 (IterS.start H) a2 a3
/-- an entry that a range hands out -/
def IsEntry (es : Array MapEntry) (born : Nat) (k v : Value) : Prop := ∃ en ∈ es.toList, en.born = born ∧ en.key = k ∧ en.val = v
theorem wp_nextP {it : Operand} {i b c r : Nat} {seen : Array Nat} {es : Array MapEntry} {l rem : List (KK × α)} (hk : Kn N e m t) (hm : Mem (Fr.put F r (some (.mapIter (some b) c seen c))) h e pl rw w) (hop : o.op = .next it false) (hd : o.dst = some d) (hlt : d < N) (hx : evA m it = some (.c (.ptr i 0))) (hr : e.blk i = (r, 0))
    (hb : h b 0 = some (encMap es c)) (H : Ents h es.toList c l) (hI : IterS h es seen rem)
    (hK0 : rem = [] → ∀ t', Kn N e (m.put d (.tup [.c (.bool false)])) t' → K ⟨t', dd⟩ w)
    (hK1 : ∀ born k x v rem', rem.Perm ((k, x) :: rem') → rv h x v → IsEntry es born (kv k) v → IterS h es (seen.push born) rem' → ∀ t' w', (∀ sv : SV, sv.den e = .tuple #[.bool true, kv k, v] → Kn N e (m.put d sv) t') → Mem (Fr.put F r (some (.mapIter (some b) c (seen.push born) c))) h e pl rw w' → K ⟨t', dd⟩ w') : o.wp P ⟨t, dd⟩ w K Q := by
  have hne : b ≠ r := fun hbr => by
    obtain ⟨ow, mm⟩ := hm
    have := (mm.ext r _ (Fr.put_X _ _ _)).2.2.2.2.2 rfl 0
    rw [← hbr, hb] at this
    cases this
  refine wp_next hk hm hop hd hlt hx hr (Fr.put_X _ _ _) (Nat.le_refl _) (hm.has.map hb) hne H.lt (fun h0 => hK0 (hI.nil h0)) fun en hen t' w' hkn hm' _ => ?_
  obtain ⟨k, x, rem', q1, q2, q3, q4⟩ := hI.step H.born hen
  rw [Fr.put_put] at hm'
  exact hK1 en.born k x en.val rem' q3 q2 ⟨en, (mem_left hen).1, rfl, q1, rfl⟩ q4 t' w' (fun sv hsv => hkn sv (by rw [hsv, q1])) hm'
theorem wp_entryP {it : Operand} {i b c r born : Nat} {seen : Array Nat} {es : Array MapEntry} {l : List (KK × α)} {k v : Value} (hk : Kn N e m t) (hm : Mem (Fr.put F r (some (.mapIter (some b) c (seen.push born) c))) h e pl rw w) (hop : o.op = .entry it) (hd : o.dst = some d) (hlt : d < N) (hx : evA m it = some (.c (.ptr i 0))) (hr : e.blk i = (r, 0))
    (hb : h b 0 = some (encMap es c)) (H : Ents h es.toList c l) (he : IsEntry es born k v)
    (hK : ∀ t', (∀ sv : SV, sv.den e = .tuple #[k, v] → Kn N e (m.put d sv) t') → K ⟨t', dd⟩ w) : o.wp P ⟨t, dd⟩ w K Q := by
  obtain ⟨en, h1, rfl, rfl, rfl⟩ := he
  exact wp_entry hk hm hop hd hlt hx hr (Fr.put_X _ _ _) (hm.has.map hb) h1 H.born hK
theorem ptK {β : Type} {G : (β → Prop) → Prop} {K : β → Prop} (H : G K) : ∃ K', K' = K ∧ G K' := ⟨K, rfl, H⟩
end
end Go.Proofs.Ytokchpjijlebiaa
