/- Quiet operations: what they yield is computed from what is known. -/
import Derived.Test.YtokchpjijlebiaaSymA
set_option linter.all false
namespace Go.Proofs.Ytokchpjijlebiaa
open Go Go.RowKit

def part' (P : Program) (T : TypeId) (cs : List SC) (off : Nat) : Option SA :=
  match tyAgg P T, tySz P T with
  | some true, some n => some (.agg ((cs.drop off).take n))
  | some false, _ => (cs[off]?).map .c
  | _, _ => none
theorem extract_take {α : Type} (xs : List α) (a n : Nat) : xs.toArray.extract a (a + n) = ((xs.drop a).take n).toArray := by
  apply Array.ext'
  simp [List.take_drop]
theorem part'_sound {P : Program} {T : TypeId} {cs : List SC} {off : Nat} {v : SA} (e : Env) (w : World) (h : part' P T cs off = some v) :
    (part T (cs.map (SC.den e)).toArray off).run P w = .ok (v.den e) w := by
  unfold part' at h
  split at h
  · rename_i n ha hn
    simp only [Option.some.injEq] at h; subst h
    simp only [part, Sem.run_bind, run_isAgg' w ha, Result.andThen_ok, if_true, run_sizeOf' w hn, Sem.run_pure, SA.den]
    rw [extract_take]; simp
  · rename_i ha
    obtain ⟨c, hc, rfl⟩ := Option.map_eq_some_iff.1 h
    simp only [part, Sem.run_bind, run_isAgg' w ha, Result.andThen_ok, Bool.false_eq_true, if_false]
    simp [hc, SA.den]
  · simp at h

def fillC (place : Nat → Option (Nat × Nat)) (cells : List SC) : List (Nat × SA) → Option (List SC)
  | [] => some cells
  | (i, v) :: rest =>
    match place i with
    | none => none
    | some (off, size) =>
      if v.cells.length ≠ size || off + v.cells.length > cells.length then none
      else fillC place (v.cells.zipIdx.foldl (fun cs (c, j) => cs.set (off + j) c) cells) rest
theorem foldl_set_den (e : Env) (off : Nat) : ∀ (l : List (SC × Nat)) (cs : List SC),
    (l.map fun x => (x.1.den e, x.2)).foldl (fun (cs : Array Value) (x : Value × Nat) => cs.setIfInBounds (off + x.2) x.1) (cs.map (SC.den e)).toArray = ((l.foldl (fun cs (x : SC × Nat) => cs.set (off + x.2) x.1) cs).map (SC.den e)).toArray
  | [], _ => rfl
  | x :: l, cs => by
    simp only [List.map_cons, List.foldl_cons]
    rw [← foldl_set_den e off l (cs.set (off + x.2) x.1)]
    congr 1
    simp [List.map_set]
theorem fillC_sound (e : Env) (place : Nat → Option (Nat × Nat)) : ∀ (ps : List (Nat × SA)) (cells out : List SC), fillC place cells ps = some out →
    Instr.fill place (cells.map (SC.den e)).toArray (ps.map fun x => (x.1, x.2.den e)) = some (out.map (SC.den e)).toArray
  | [], cells, out, h => by simp [fillC] at h; subst h; rfl
  | (i, v) :: rest, cells, out, h => by
    unfold fillC at h
    simp only [List.map_cons, Instr.fill]
    split at h
    · simp at h
    · rename_i off size hp
      simp only [hp]
      split at h
      · simp at h
      · rename_i hc
        simp only [Bool.or_eq_true, decide_eq_true_eq, not_or, ne_eq, Decidable.not_not] at hc
        have hsz : (v.den e).cells.size = v.cells.length := by rw [SA.den_cells]; simp
        have hif : ¬ ((decide ((v.den e).cells.size ≠ size) || decide (off + (v.den e).cells.size > (cells.map (SC.den e)).toArray.size)) = true) := by
          rw [hsz]; simp; exact ⟨by simpa using hc.1, by simpa using hc.2⟩
        rw [if_neg hif]
        rw [← fillC_sound e place rest _ out h]
        congr 1
        rw [SA.den_cells]
        rw [show (List.map (SC.den e) v.cells).toArray.zipIdx = ((v.cells.zipIdx.map fun x => (x.1.den e, x.2))).toArray from by
          simp [List.zipIdx_map]]
        simp only [List.foldl_toArray']
        exact foldl_set_den e off _ _

def evA (m : TM) (x : Operand) : Option SA := match ev m x with | some (.one v) => some v | _ => none
theorem evA_sound {N : Nat} {e : Env} {m : TM} {t : Array Value} {d : List Deferred} {x : Operand} {v : SA} (hk : Kn N e m t) (h : evA m x = some v) : (Act.mk t d).eval x = v.den e := by
  unfold evA at h
  split at h
  · rename_i u hu
    simp at h; subst h
    exact ev_sound hk hu
  · simp at h
def evParts (m : TM) : List (Nat × Operand) → Option (List (Nat × SA))
  | [] => some []
  | (i, x) :: r => match evA m x, evParts m r with
    | some v, some vs => some ((i, v) :: vs)
    | _, _ => none
theorem evParts_sound {N : Nat} {e : Env} {m : TM} {t : Array Value} {d : List Deferred} (hk : Kn N e m t) : ∀ {l : List (Nat × Operand)} {vs : List (Nat × SA)}, evParts m l = some vs →
    (l.map fun (i, x) => (i, (Act.mk t d).eval x)) = vs.map fun x => (x.1, x.2.den e)
  | [], vs, h => by simp [evParts] at h; subst h; rfl
  | (i, x) :: r, vs, h => by
    unfold evParts at h
    split at h
    · rename_i v us hv hus
      simp at h; subst h
      have := evParts_sound (d := d) hk hus
      simp only [List.map_cons, evA_sound hk hv]
      rw [this]
    · simp at h
def places (P : Program) : List Field → Option (List (Nat × Nat))
  | [] => some []
  | f :: r => match tySz P f.type, places P r with
    | some n, some ps => some ((f.offset, n) :: ps)
    | _, _ => none
theorem places_sound {P : Program} (w : World) : ∀ {fs : List Field} {ps : List (Nat × Nat)}, places P fs = some ps →
    (fs.mapM fun f => (do pure (f.offset, ← sizeOf f.type) : Sem (Nat × Nat))).run P w = .ok ps w
  | [], ps, h => by simp [places] at h; subst h; rfl
  | f :: r, ps, h => by
    unfold places at h
    split at h
    · rename_i n qs hn hqs
      simp at h; subst h
      have := places_sound w hqs
      rw [List.mapM_cons]
      simp only [Sem.run_bind, run_sizeOf' w hn, Result.andThen_ok, Sem.run_pure, this]
    · simp at h

def zeroSC (P : Program) (T : TypeId) : Option (List SC) := match P.info? T with
  | some i => match i.zero with
    | some v => constSCs v.cells.toList
    | none => none
  | none => none
theorem zeroSC_sound {P : Program} {T : TypeId} {cs : List SC} (e : Env) (w : World) (h : zeroSC P T = some cs) : ∃ z, (zeroValue T).run P w = .ok z w ∧ z.cells = (cs.map (SC.den e)).toArray := by
  unfold zeroSC at h
  split at h
  · rename_i i hi
    split at h
    · rename_i v hv
      refine ⟨v, by simp [zeroValue, typeInfo, hi, hv], ?_⟩
      rw [constSCs_den e h]
    · simp at h
  · simp at h

def qcall (P : Program) (m : TM) (c : Call) : Option SV :=
  match c.callee, c.args.toList with
  | .builtin .len, [x] => match c.argTypes.toList with
    | [T] => match P.underlying T, evA m x with
      | some (.slice _), some (.c (.slice _ n _)) => some (.one (.c (.int .i64 (n : Int))))
      | some .string, some (.c (.str s)) => some (.one (.c (.int .i64 (s.size : Int))))
      | _, _ => none
    | _ => none
  | .builtin .max, [x, y] => match evA m x, evA m y with
    | some (.c (.int k a)), some (.c (.int _ b)) => some (.one (.c (.int k (if b > a then b else a))))
    | _, _ => none
  | .builtin .min, [x, y] => match evA m x, evA m y with
    | some (.c (.int k a)), some (.c (.int _ b)) => some (.one (.c (.int k (if b < a then b else a))))
    | _, _ => none
  | _, _ => none
theorem toList_eq {α : Type} {a : Array α} {l : List α} (h : a.toList = l) : a = l.toArray := by rw [← h]
theorem qcall_sound {P : Program} {N : Nat} {e : Env} {m : TM} {t : Array Value} {d : List Deferred} {w : World} {c : Call} {T : TypeId} {v : SV} (hk : Kn N e m t)
    (h : qcall P m c = some v) : (do let dd ← resolve (Act.mk t d).eval c T; invoke dd.target dd.args : Sem Next).run P w = .ok (.value (v.den e)) w := by
  obtain ⟨callee, args, argTypes⟩ := c
  unfold qcall at h
  simp only at h
  split at h
  · rename_i x hargs
    have hargs := toList_eq hargs
    subst hargs
    split at h
    · rename_i U hT
      have hT := toList_eq hT
      subst hT
      split at h
      · rename_i hT hx
        simp only [Option.some.injEq] at h; subst h
        simp [resolve, invoke, builtin, Builtin.len_, evA_sound hk hx, run_underlying hT, SA.den, SC.den, SV.den, goInt]
      · rename_i hT hx
        simp only [Option.some.injEq] at h; subst h
        simp [resolve, invoke, builtin, Builtin.len_, evA_sound hk hx, run_underlying hT, SA.den, SC.den, SV.den, goInt]
      · simp at h
    · simp at h
  · rename_i x y hargs
    have hargs := toList_eq hargs
    subst hargs
    split at h
    · rename_i hx hy
      simp only [Option.some.injEq] at h; subst h
      simp [resolve, invoke, builtin, Builtin.max_, Builtin.max2, evA_sound hk hx, evA_sound hk hy, SA.den, SC.den, SV.den]
    · simp at h
  · rename_i x y hargs
    have hargs := toList_eq hargs
    subst hargs
    split at h
    · rename_i hx hy
      simp only [Option.some.injEq] at h; subst h
      simp [resolve, invoke, builtin, Builtin.min_, Builtin.min2, evA_sound hk hx, evA_sound hk hy, SA.den, SC.den, SV.den]
    · simp at h
  · simp at h

def qscal (P : Program) (T : TypeId) (x y : SC) : Option Bool := match x, y with
  | .int k a, .int k' b => match P.underlying T with
    | some (.int _) => if k = k' then some (a == b) else none
    | _ => none
  | .bool a, .bool b => match P.underlying T with
    | some .bool => some (a == b)
    | _ => none
  | _, _ => none
theorem qscal_sound {P : Program} {T : TypeId} {x y : SC} {b : Bool} (e : Env) (w : World) (d : Nat) (h : qscal P T x y = some b) : (Op.equalIn (d + 1) T (x.den e) (y.den e)).run P w = .ok b w := by
  unfold qscal at h
  split at h
  · split at h
    · rename_i hu
      split at h
      · rename_i hk
        subst hk
        cases h
        exact run_equalIn_int w d T _ _ _ _ hu
      · cases h
    · cases h
  · split at h
    · rename_i hu
      cases h
      exact run_equalIn_bool' w d T _ _ hu
    · cases h
  · cases h
/-- the fields of two structs, one by one -/
def qeqf (P : Program) (xs ys : List SC) : List Field → Option Bool
  | [] => some true
  | f :: fs => if f.name = "_" then none else match tyAgg P f.type, xs[f.offset]?, ys[f.offset]? with
    | some false, some a, some b => match qscal P f.type a b, qeqf P xs ys fs with
      | some p, some q => some (p && q)
      | _, _ => none
    | _, _, _ => none
theorem qeqf_sound {P : Program} {xs ys : List SC} (e : Env) (w : World) (d : Nat) : ∀ {fs : List Field} {b : Bool}, qeqf P xs ys fs = some b → (Op.eqFields (d + 1) (xs.map (SC.den e)).toArray (ys.map (SC.den e)).toArray fs).run P w = .ok b w
  | [], b, h => by cases h; rfl
  | f :: fs, b, h => by
    unfold qeqf at h
    split at h
    · cases h
    · rename_i hn
      split at h
      · rename_i a c ha hx hy
        split at h
        · rename_i p q hp hq
          cases h
          unfold Op.eqFields
          have h1 : (part f.type (xs.map (SC.den e)).toArray f.offset).run P w = .ok (a.den e) w := by
            unfold part
            simp only [Sem.run_bind, run_isAgg' w ha, Result.andThen_ok, Bool.false_eq_true, if_false]
            have : (xs.map (SC.den e)).toArray[f.offset]? = some (a.den e) := by simp [hx]
            rw [this]; rfl
          have h2 : (part f.type (ys.map (SC.den e)).toArray f.offset).run P w = .ok (c.den e) w := by
            unfold part
            simp only [Sem.run_bind, run_isAgg' w ha, Result.andThen_ok, Bool.false_eq_true, if_false]
            have : (ys.map (SC.den e)).toArray[f.offset]? = some (c.den e) := by simp [hy]
            rw [this]; rfl
          rw [if_pos hn]
          simp only [Sem.run_bind, h1, h2, Result.andThen_ok, qscal_sound e w d hp]
          cases p
          · rfl
          · simp only [Bool.not_true, Bool.false_eq_true, if_false, Bool.true_and]
            exact qeqf_sound e w d hq
        · cases h
      · cases h
def qagg (P : Program) (op : BinOp) (T : TypeId) (xs ys : List SC) : Option SC := match P.underlying T with
  | some (.struct fs) => if P.stoodInHeld T = false ∧ P.eqGuardType P.depth T = false then match op, qeqf P xs ys fs.toList with
      | .eql, some b => some (.bool b)
      | .neq, some b => some (.bool !b)
      | _, _ => none
    else none
  | _ => none
theorem qagg_sound {P : Program} {op : BinOp} {T : TypeId} {xs ys : List SC} {c : SC} (e : Env) (w : World) (ox oy : Operand) (h : qagg P op T xs ys = some c) :
    (do eqGuard op T ox oy (.agg (xs.map (SC.den e)).toArray) (.agg (ys.map (SC.den e)).toArray); binOp op T (.agg (xs.map (SC.den e)).toArray) (.agg (ys.map (SC.den e)).toArray) : Sem Value).run P w = .ok (c.den e) w := by
  unfold qagg at h
  split at h
  · rename_i fs hT
    split at h
    · rename_i hg
      obtain ⟨h1, h2⟩ := hg
      have hF : P.fieldsOf T = fs := by unfold Program.fieldsOf; rw [hT]
      have hrun : ∀ b, qeqf P xs ys fs.toList = some b → (Op.equalIn 10000 T (.agg (xs.map (SC.den e)).toArray) (.agg (ys.map (SC.den e)).toArray)).run P w = .ok b w := fun b hb => by
        rw [show (10000 : Nat) = 9999 + 1 from rfl, run_equalIn_struct w 9999 T _ _ (by rw [hF]; exact hT) h1, hF]
        exact qeqf_sound e w 9998 hb
      simp only [Sem.run_bind, run_eqGuard_agg w op T ox oy _ _ h2, Result.andThen_ok]
      split at h
      · rename_i b hb
        cases h
        rw [run_eql_struct, hrun b hb]; rfl
      · rename_i b hb
        cases h
        rw [run_neq_struct, hrun b hb]; rfl
      · cases h
    · cases h
  · cases h
def qop (P : Program) (m : TM) (pl : List Plc) : Op → Option SV
  | .move x | .assign x => ev m x
  | .pick c a b => match ev m c with
    | some (.one (.c (.bool true))) => ev m a
    | some (.one (.c (.bool false))) => ev m b
    | _ => none
  | .load T x => match ev m x with
    | some (.one (.c (.ptr i off))) => match pl[i]? with
      | some p => match tyAgg P T, tySz P T with
        | some true, some n => if ((p.cells.drop off).take n).length = n then some (.one (.agg ((p.cells.drop off).take n))) else none
        | some false, _ => (p.cells[off]?).map fun c => .one (.c c)
        | _, _ => none
      | none => none
    | _ => none
  | .binOp op T x y _ => match evA m x, evA m y with
    | some (.c a), some (.c b) => (qbin P op T a b).map fun c => .one (.c c)
    | some (.agg a), some (.agg b) => (qagg P op T a b).map fun c => .one (.c c)
    | _, _ => none
  | .unOp op _ x => match op, evA m x with
    | .not, some (.c (.bool b)) => some (.one (.c (.bool !b)))
    | .neg, some (.c (.int k n)) => some (.one (.c (.int k (k.wrap (0 - n)))))
    | _, _ => none
  | .convert src dst x => match P.underlying src, P.underlying dst, evA m x with
    | some (.int _), some (.int k), some (.c (.int _ n)) => some (.one (.c (.int k (k.wrap n))))
    | _, _, _ => none
  | .fieldAddr s x f => match P.underlying s, evA m x with
    | some (.struct fs), some (.c (.ptr i off)) => match fs[f]? with
      | some fl => match tySz P fl.type with
        | some (_ + 1) => some (.one (.c (.ptr i (off + fl.offset))))
        | _ => none
      | none => none
    | _, _ => none
  | .field T x f => match P.underlying T, evA m x with
    | some (.struct fs), some (.agg cs) => match fs[f]? with
      | some fl => (part' P fl.type cs fl.offset).map .one
      | none => none
    | _, _ => none
  | .build T ps => match zeroSC P T, P.underlying T, evParts m ps.toList with
    | some z, some (.struct fs), some vs => match places P fs.toList with
      | some pc => (fillC (fun i => pc.toArray[i]?) z vs).map fun cs => .one (.agg cs)
      | none => none
    | _, _, _ => none
  | .extract x ix => match ev m x with
    | some (.tup vs) => (vs[ix]?).map .one
    | _ => none
  | .call c => qcall P m c
  | .nilCheck x => match evA m x with
    | some (.c (.ptr i off)) => some (.one (.c (.ptr i off)))
    | _ => none
  | _ => none

theorem qop_sound {P : Program} {N : Nat} {e : Env} {m : TM} {t : Array Value} {d : List Deferred} {pl : List Plc} {w : World} {o : Oper} {v : SV} (hk : Kn N e m t) (hp : PlOk e pl w)
    (h : qop P m pl o.op = some v) : (execOp (Act.mk t d).eval o).run P w = .ok (.value (v.den e)) w := by
  unfold execOp
  generalize o.op = op at h
  cases op <;> simp only [qop] at h <;> try contradiction
  case move x => simp only [ev_sound hk h]; rfl
  case nilCheck x =>
    split at h
    · rename_i i off hx
      simp only [Option.some.injEq] at h; subst h
      simp only [evA_sound hk hx]
      rfl
    · simp at h
  case assign x => simp only [ev_sound hk h]; rfl
  case pick c a b =>
    split at h
    · rename_i hc
      simp only [ev_sound hk hc, ev_sound hk h]
      rfl
    · rename_i hc
      simp only [ev_sound hk hc, ev_sound hk h]
      rfl
    · simp at h
  case load T x =>
    split at h
    · rename_i i off hx
      split at h
      · rename_i p hpi
        have hcell := hp i p hpi
        simp only [ev_sound hk hx]
        split at h
        · rename_i n ha hn
          split at h
          · rename_i hlen
            simp only [Option.some.injEq] at h; subst h
            have hl : (loadCells ⟨(e.blk i).1, (e.blk i).2 + off, none⟩ n).run P w = .ok (((p.cells.drop off).take n).map (SC.den e)).toArray w := by
              have := run_loadCells_list (P := P) w ⟨(e.blk i).1, (e.blk i).2 + off, none⟩ (((p.cells.drop off).take n).map (SC.den e)) (fun j v hj => by
                rw [List.getElem?_map] at hj
                obtain ⟨c, hc, rfl⟩ := Option.map_eq_some_iff.1 hj
                rw [List.getElem?_take] at hc
                split at hc
                · rw [List.getElem?_drop] at hc
                  have := hcell (off + j) c hc
                  unfold Addr.add
                  split
                  · subst_vars; simpa using this
                  · simpa [Nat.add_assoc] using this
                · simp at hc)
              rw [List.length_map, hlen] at this
              exact this
            simp only [Instr.loadAt, Instr.sureAddr, SV.den, SA.den, SC.den, Sem.run_bind, Sem.run_pure, Result.andThen_ok, loadVar, run_isAgg' w ha, if_true, run_sizeOf' w hn, hl]
          · simp at h
        · rename_i ha
          obtain ⟨c, hc, rfl⟩ := Option.map_eq_some_iff.1 h
          have := hcell off c hc
          simp only [Instr.loadAt, Instr.sureAddr, SV.den, SA.den, SC.den, Sem.run_bind, Sem.run_pure, Result.andThen_ok, loadVar, run_isAgg' w ha, Bool.false_eq_true, if_false, run_load, this]
        · simp at h
      · simp at h
    · simp at h
  case binOp op T x y yT =>
    split at h
    · rename_i a b ha hb
      obtain ⟨c, hc, rfl⟩ := Option.map_eq_some_iff.1 h
      have := qbin_sound e w x y hc
      simp only [evA_sound hk ha, evA_sound hk hb, Sem.run_bind, SA.den] at this ⊢
      rw [this]; rfl
    · rename_i a b ha hb
      obtain ⟨c, hc, rfl⟩ := Option.map_eq_some_iff.1 h
      have := qagg_sound e w x y hc
      simp only [evA_sound hk ha, evA_sound hk hb, Sem.run_bind, SA.den] at this ⊢
      rw [this]; rfl
    · simp at h
  case unOp op T x =>
    split at h
    · rename_i b hx
      simp only [Option.some.injEq] at h; subst h
      simp [evA_sound hk hx, SA.den, SC.den, Op.unary, SV.den]
    · rename_i k n hx
      simp only [Option.some.injEq] at h; subst h
      simp [evA_sound hk hx, SA.den, SC.den, Op.unary, Op.intArith, SV.den]
    · simp at h
  case convert src dst x =>
    split at h
    · rename_i k n hs hd hx
      simp only [Option.some.injEq] at h; subst h
      simp only [evA_sound hk hx, SA.den, SC.den, SV.den, convert, Sem.run_bind, run_underlying hs, run_underlying hd, Result.andThen_ok, Conv.intToInt]
      rfl
    · simp at h
  case fieldAddr s x f =>
    split at h
    · rename_i fs i off hs hx
      split at h
      · rename_i fl hf
        split at h
        · rename_i n hn
          simp only [Option.some.injEq] at h; subst h
          simp only [evA_sound hk hx, SA.den, SC.den, SV.den, Instr.fieldAt, Instr.sureAddr, Sem.run_bind, run_underlying hs, Result.andThen_ok, hf, Sem.run_pure, fieldPlace, run_sizeOf' w hn]
          simp [Addr.add]
          split
          · simp_all
          · simp [Nat.add_assoc]
        · simp at h
      · simp at h
    · simp at h
  case field T x f =>
    split at h
    · rename_i fs cs hs hx
      split at h
      · rename_i fl hf
        obtain ⟨c, hc, rfl⟩ := Option.map_eq_some_iff.1 h
        have := part'_sound e w hc
        simp only [evA_sound hk hx, SA.den, Instr.field, asAgg, Sem.run_bind, run_underlying hs, Result.andThen_ok, hf, Sem.run_pure, this, SV.den]
      · simp at h
    · simp at h
  case build T ps =>
    split at h
    · rename_i z fs vs hz hs hps
      split at h
      · rename_i pc hpc
        obtain ⟨c, hc, rfl⟩ := Option.map_eq_some_iff.1 h
        obtain ⟨zv, hzv, hzc⟩ := zeroSC_sound e w hz
        have h1 := fillC_sound e _ _ _ _ hc
        have h2 := places_sound w hpc
        have h3 : (Array.mapM (fun f => (do pure (f.offset, ← sizeOf f.type) : Sem (Nat × Nat))) fs).run P w = .ok pc.toArray w := by
          rw [← Array.toArray_toList (xs := fs), List.mapM_toArray]
          simp only [Sem.run_map, h2, Result.andThen_ok]
        have h4 := evParts_sound (d := d) hk hps
        simp only [Instr.build, Sem.run_bind, hzv, Result.andThen_ok, run_underlying hs, h3, hzc]
        have h5 : (Array.map (fun x => (x.1, (Act.mk t d).eval x.2)) ps).toList = vs.map fun x => (x.1, x.2.den e) := by
          rw [← h4]; simp
        simp only [h5, h1]
        rfl
      · simp at h
    · simp at h
  case extract x ix =>
    split at h
    · rename_i vs hx
      obtain ⟨c, hc, rfl⟩ := Option.map_eq_some_iff.1 h
      simp [ev_sound hk hx, SV.den, Instr.extract, hc]
    · simp at h
  case call c => exact qcall_sound hk h
end Go.Proofs.Ytokchpjijlebiaa
