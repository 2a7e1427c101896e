/- What a printed proof leans on: memory that is read, and steps through a region. -/
import Derived.WalkKit
import Derived.OrdersHeld
import Derived.Below
import Derived.Deep.AppendLies
import Derived.KernelRfl
import Derived.Laws.StructEq
set_option linter.all false
namespace Go.Proofs.YtinminkmefljbaaGreat
open Go Go.RowKit
inductive SC where
  | int (k:IntKind) (n:Int)
  | bool (b:Bool)
  | str (s:ByteArray)
  | ptr (i off:Nat)
  | nilptr
  | slice (a:Option Addr) (n c:Nat)
  | map (r:Option Nat)
  | func (f:Fn) (first cap:Array Value)
  | nilfunc
inductive SA where
  | c (x:SC)
  | agg (xs:List SC)
inductive SV where
  | one (x:SA)
  | tup (xs:List SA)
  | undef
abbrev AJ:=List (Nat×Nat)
def AJ.blk:AJ→Nat→Nat×Nat
  | [],_=>(0,0)
  | x::_,0=>x
  | _::r,i+1=>AJ.blk r i
def SC.den (e:AJ):SC→Value
  | .int k n=>.int k n
  | .bool b=>.bool b
  | .str s=>.string s
  | .ptr i off=>.pointer (some ⟨(e.blk i).1,(e.blk i).2+off,none⟩)
  | .nilptr=>.pointer none
  | .slice a n c=>.slice a n c
  | .map r=>.map r
  | .func f first cap=>.func f first cap
  | .nilfunc=>.nilFunc
def SA.den (e:AJ):SA→Value
  | .c x=>x.den e
  | .agg xs=>.agg (xs.map (SC.den e)).toArray
def SV.den (e:AJ):SV→Value
  | .one x=>x.den e
  | .tup xs=>.tuple (xs.map (SA.den e)).toArray
  | .undef=>Go.undef
def SA.cells:SA→List SC
  | .c x=>[x]
  | .agg xs=>xs
theorem SC.den_one (e:AJ) (x:SC):(x.den e).oneCell' = true:=by cases x <;> rfl
theorem SC.den_cells (e:AJ) (x:SC):(x.den e).cells=#[x.den e]:=by cases x <;> rfl
theorem SA.den_cells (e:AJ) (x:SA):(x.den e).cells=(x.cells.map (SC.den e)).toArray:=by
  cases x with
  | c x=>simp [SA.den,SA.cells,SC.den_cells]
  | agg xs=>rfl
abbrev TM:=List (Nat×SV)
def TM.get:TM→Nat→Option SV
  | [],_=>none
  | (j,v)::r,k=>bif Nat.beq j k then some v else TM.get r k
def TM.put (m:TM) (k:Nat) (v:SV):TM:=(k,v)::m
structure Kn (N:Nat) (e:AJ) (m:TM) (t:Array Value):Prop where
  size:t.size=N
  get:∀ k v,m.get k=some v→t[k]? = some (v.den e)
theorem Kn.put {N:Nat} {e:AJ} {m:TM} {t:Array Value} (h:Kn N e m t) {k:Nat} (hk:k<N) (v:SV):Kn N e (m.put k v) (t.setIfInBounds k (v.den e)):=by
  refine⟨by simp [h.size],fun j u hj=>?_⟩
  unfold TM.put TM.get at hj
  by_cases hjk:k=j
  · subst hjk
    have:Nat.beq k k=true:=by simp
    rw [this] at hj
    simp at hj
    subst hj
    simp [h.size,hk]
  have h1:Nat.beq k j=false:=by
    cases hb:Nat.beq k j with
    | false=>rfl
    | true=>exact absurd (Nat.eq_of_beq_eq_true hb) hjk
  rw [h1] at hj
  simp only [cond_false] at hj
  rw [Array.getElem?_setIfInBounds_ne hjk]
  exact h.get j u hj
def TM.sub (m m':TM):Prop:=∀ k v,m'.get k=some v→m.get k=some v
theorem Kn.sub {N:Nat} {e:AJ} {m m':TM} {t:Array Value} (h:Kn N e m t) (hs:TM.sub m m'):Kn N e m' t:=⟨h.size,fun k v hk=>h.get k v (hs k v hk)⟩
def FV (m:TM):List Nat→TM
  | []=>[]
  | k::r=>match m.get k with | some v=>(k,v)::FV m r | none=>FV m r
theorem Fh (m:TM):∀ l,TM.sub m (FV m l)
  | [],_,_,h=>by simp [FV,TM.get] at h
  | j::r,k,v,h=>by
    unfold FV at h
    split at h
    · rename_i u hu
      unfold TM.get at h
      cases hb:Nat.beq j k with
      | true =>
        rw [hb] at h
        have:j=k:=by simpa using hb
        subst this
        simp at h
        subst h
        exact hu
      | false =>
        rw [hb] at h
        exact Fh m r k v h
    exact Fh m r k v h
def Od:Value→Option SC
  | .int k n=>some (.int k n)
  | .bool b=>some (.bool b)
  | .string s=>some (.str s)
  | .pointer none=>some .nilptr
  | .slice none n c=>some (.slice none n c)
  | .map none=>some (.map none)
  | .nilFunc=>some .nilfunc
  | _=>none
def HR:List Value→Option (List SC)
  | []=>some []
  | v::r=>match Od v,HR r with
    | some x,some xs=>some (x::xs)
    | _,_=>none
def QK:Value→Option SV
  | .agg cs=>(HR cs.toList).map fun xs=>.one (.agg xs)
  | v=>(Od v).map fun x=>.one (.c x)
theorem N1 {v:Value} {x:SC} (e:AJ) (h:Od v=some x):x.den e=v:=by
  unfold Od at h
  split at h <;> simp at h <;> subst h <;> rfl
theorem Is (e:AJ):∀ {vs:List Value} {xs:List SC},HR vs=some xs→xs.map (SC.den e)=vs
  | [],xs,h=>by simp [HR] at h; subst h; rfl
  | v::r,xs,h=>by
    unfold HR at h
    split at h
    · rename_i x ys hx hys
      simp at h; subst h
      simp [N1 e hx,Is e hys]
    simp at h
theorem RY {v:Value} {x:SV} (e:AJ) (h:QK v=some x):x.den e=v:=by
  unfold QK at h
  split at h
  · simp at h
    obtain⟨xs,h1,rfl⟩:=h
    simp [SV.den,SA.den,Is e h1]
  simp at h
  obtain⟨xs,h1,rfl⟩:=h
  simp [SV.den,SA.den,N1 e h1]
def ev (m:TM):Operand→Option SV
  | .tmp k=>m.get k
  | .const v=>QK v
  | .global _=>none
  | .func f=>some (.one (.c (.func (.func f) #[] #[])))
theorem F3 {N:Nat} {e:AJ} {m:TM} {t:Array Value} {d:List Deferred} {x:Operand} {v:SV} (hk:Kn N e m t) (h:ev m x=some v):(Act.mk t d).eval x=v.den e:=by
  cases x with
  | tmp k =>
    have:=hk.get k v h
    show t.getD k Go.undef=_
    rw [Array.getD_eq_getD_getElem?,this]; rfl
  | const c=>exact(RY e h).symm
  | global g=>simp [ev] at h
  | func f=>simp [ev] at h; subst h; rfl
structure C0 where
  cells:List SC
  own:Option TypeId
def Ay (e:AJ) (pl:List C0) (w:World):Prop :=
  ∀ i p,pl[i]? = some p→∀ j c,p.cells[j]? = some c→w.cell? ⟨(e.blk i).1,(e.blk i).2+j,none⟩=some (c.den e)
def OF (P:Program) (T:TypeId):Option Bool:=(P.underlying T).map fun | .struct _ | .array _ _=>true | _=>false
def FW (P:Program) (T:TypeId):Option Nat:=(P.info? T).map (·.size)
theorem Fi {P:Program} {T:TypeId} {b:Bool} (w:World) (h:OF P T=some b):(isAgg T).run P w=.ok b w:=by
  unfold OF at h
  obtain⟨d,hd,rfl⟩:=Option.map_eq_some_iff.1 h
  simp only [isAgg,Sem.run_bind,run_underlying hd,Result.andThen_ok]
  cases d <;> rfl
theorem BP {P:Program} {T:TypeId} {n:Nat} (w:World) (h:FW P T=some n):(sizeOf T).run P w=.ok n w:=by
  unfold FW at h
  obtain⟨d,hd,rfl⟩:=Option.map_eq_some_iff.1 h
  simp [sizeOf,typeInfo,hd]
def Xp (P:Program) (op:BinOp) (T:TypeId) (x y:SC):Option SC :=
  match x,y with
  | .int k a,.int k' b =>
    if k=k' then
      match op with
      | .add=>some (.int k (k.wrap (a+b)))
      | .sub=>some (.int k (k.wrap (a-b)))
      | .mul=>some (.int k (k.wrap (a*b)))
      | .eql=>some (.bool (a == b))
      | .neq=>some (.bool (a != b))
      | .lss=>some (.bool (decide (a<b)))
      | .leq=>some (.bool (decide (a≤b)))
      | .gtr=>some (.bool (decide (a>b)))
      | .geq=>some (.bool (decide (a≥b)))
      | .quo=>match b with | .ofNat (n+1)=>some (.int k (k.wrap (a.tdiv (.ofNat (n+1))))) | _=>none
      | .rem=>match b with | .ofNat (n+1)=>some (.int k (a.tmod (.ofNat (n+1)))) | _=>none
      | _=>none
    else none
  | .bool a,.bool b =>
    match P.underlying T with
    | some .bool=>match op with
      | .eql=>some (.bool (a == b))
      | .neq=>some (.bool (!(a == b)))
      | _=>none
    | _=>none
  | .slice a _ _,.slice none _ _ =>
    match P.underlying T with
    | some (.slice _)=>match op with
      | .eql=>some (.bool a.isNone)
      | .neq=>some (.bool (!a.isNone))
      | _=>none
    | _=>none
  | _,_=>none
theorem Km {P:Program} {T E:TypeId} (a:Option Addr) (n c n' c':Nat) (w:World) (h:P.underlying T=some (.slice E)):(Op.equal T (.slice a n c) (.slice none n' c')).run P w=.ok a.isNone w:=by
  unfold Op.equal
  rw [show Op.maxDepth=9999+1 from rfl,Op.equalIn]
  simp only [Sem.run_bind,run_underlying h,Result.andThen_ok]
  cases a <;> rfl
theorem Jg {P:Program} {T:TypeId} (a b:Bool) (w:World) (h:P.underlying T=some .bool):(Op.equal T (.bool a) (.bool b)).run P w=.ok (a == b) w:=by
  unfold Op.equal
  rw [show Op.maxDepth=9999+1 from rfl,Op.equalIn]
  simp only [Sem.run_bind,run_underlying h,Result.andThen_ok]
  rfl
theorem Th {P:Program} {op:BinOp} {T:TypeId} {x y v:SC} (e:AJ) (w:World) (ox oy:Operand) (h:Xp P op T x y=some v) :
    (do eqGuard op T ox oy (x.den e) (y.den e); binOp op T (x.den e) (y.den e):Sem Value).run P w=.ok (v.den e) w:=by
  unfold Xp at h
  split at h
  · rename_i k a k' b
    split at h
    · rename_i hkk
      subst hkk
      have hg:(eqGuard op T ox oy (SC.den e (.int k a)) (SC.den e (.int k b))).run P w=.ok () w:=by
        unfold eqGuard
        split <;> rfl
      simp only [Sem.run_bind,hg,Result.andThen_ok]
      split at h
      all_goals first
        | (simp at h; subst h; simp [SC.den,binOp,Op.intArith,Op.intCmp,Go.gt_iff_lt]; done)
        | (simp at h; subst h; simp [SC.den,binOp,Op.intArith,Op.intCmp]; done)
        | (simp at h; done)
        | (split at h
           · simp at h; subst h
             have hne : ¬ (Int.ofNat (‹Nat› + 1)=0):=by simp; omega
             simp [SC.den,binOp,Op.intDiv]
             try omega
           simp at h)
    simp at h
  · rename_i a b
    split at h
    · rename_i hu
      have hg:(eqGuard op T ox oy (SC.den e (.bool a)) (SC.den e (.bool b))).run P w=.ok () w:=by
        unfold eqGuard
        split <;> rfl
      simp only [Sem.run_bind,hg,Result.andThen_ok]
      split at h
      · simp only [Option.some.injEq] at h; subst h
        show((do pure (.bool (← Op.equal T (.bool a) (.bool b))):Sem Value).run P w)=_
        simp only [Sem.run_bind,Jg a b w hu,Result.andThen_ok]
        rfl
      · simp only [Option.some.injEq] at h; subst h
        show((do pure (.bool (!(← Op.equal T (.bool a) (.bool b)))):Sem Value).run P w)=_
        simp only [Sem.run_bind,Jg a b w hu,Result.andThen_ok]
        rfl
      simp at h
    simp at h
  · rename_i a n1 c1 n2 c2
    split at h
    · rename_i E hu
      have hg:(eqGuard op T ox oy (SC.den e (.slice a n1 c1)) (SC.den e (.slice none n2 c2))).run P w=.ok () w:=by
        unfold eqGuard
        split <;> rfl
      simp only [Sem.run_bind,hg,Result.andThen_ok]
      split at h
      · simp only [Option.some.injEq] at h; subst h
        show((do pure (.bool (← Op.equal T (.slice a n1 c1) (.slice none n2 c2))):Sem Value).run P w)=_
        simp only [Sem.run_bind,Km a n1 c1 n2 c2 w hu,Result.andThen_ok]
        rfl
      · simp only [Option.some.injEq] at h; subst h
        show((do pure (.bool (!(← Op.equal T (.slice a n1 c1) (.slice none n2 c2)))):Sem Value).run P w)=_
        simp only [Sem.run_bind,Km a n1 c1 n2 c2 w hu,Result.andThen_ok]
        rfl
      simp at h
    simp at h
  simp at h
open Go Go.RowKit
def LI (P:Program) (T:TypeId) (cs:List SC) (off:Nat):Option SA :=
  match OF P T,FW P T with
  | some true,some n=>some (.agg ((cs.drop off).take n))
  | some false,_=>(cs[off]?).map .c
  | _,_=>none
theorem QL {α:Type} (xs:List α) (a n:Nat):xs.toArray.extract a (a+n)=((xs.drop a).take n).toArray:=by
  apply Array.ext'
  simp [List.take_drop]
theorem Ew {P:Program} {T:TypeId} {cs:List SC} {off:Nat} {v:SA} (e:AJ) (w:World) (h:LI P T cs off=some v) :
    (part T (cs.map (SC.den e)).toArray off).run P w=.ok (v.den e) w:=by
  unfold LI at h
  split at h
  · rename_i n ha hn
    simp only [Option.some.injEq] at h; subst h
    simp only [part,Sem.run_bind,Fi w ha,Result.andThen_ok,if_true,BP w hn,Sem.run_pure,SA.den]
    rw [QL]; simp
  · rename_i ha
    obtain⟨c,hc,rfl⟩:=Option.map_eq_some_iff.1 h
    simp only [part,Sem.run_bind,Fi w ha,Result.andThen_ok,Bool.false_eq_true,if_false]
    simp [hc,SA.den]
  simp at h
def OG (place:Nat→Option (Nat×Nat)) (cells:List SC):List (Nat×SA)→Option (List SC)
  | []=>some cells
  | (i,v)::rest =>
    match place i with
    | none=>none
    | some (off,size) =>
      if v.cells.length≠size || off+v.cells.length>cells.length then none
      else OG place (v.cells.zipIdx.foldl (fun cs (c,j)=>cs.set (off+j) c) cells) rest
theorem Ko (e:AJ) (off:Nat):∀ (l:List (SC×Nat))(cs:List SC),
    (l.map fun x=>(x.1.den e,x.2)).foldl (fun(cs:Array Value)(x:Value×Nat)=>cs.setIfInBounds (off+x.2) x.1) (cs.map (SC.den e)).toArray=((l.foldl (fun cs (x:SC×Nat)=>cs.set (off+x.2) x.1) cs).map (SC.den e)).toArray
  | [],_=>rfl
  | x::l,cs=>by
    simp only [List.map_cons,List.foldl_cons]
    rw [← Ko e off l (cs.set (off+x.2) x.1)]
    congr 1
    simp [List.map_set]
theorem Hu (e:AJ) (place:Nat→Option (Nat×Nat)):∀ (ps:List (Nat×SA))(cells out:List SC),OG place cells ps=some out →
    Instr.fill place (cells.map (SC.den e)).toArray (ps.map fun x=>(x.1,x.2.den e))=some (out.map (SC.den e)).toArray
  | [],cells,out,h=>by simp [OG] at h; subst h; rfl
  | (i,v)::rest,cells,out,h=>by
    unfold OG at h
    simp only [List.map_cons,Instr.fill]
    split at h
    · simp at h
    rename_i off size hp
    simp only [hp]
    split at h
    · simp at h
    rename_i hc
    simp only [Bool.or_eq_true,decide_eq_true_eq,not_or,ne_eq,Decidable.not_not] at hc
    have hsz:(v.den e).cells.size=v.cells.length:=by rw [SA.den_cells]; simp
    have hif : ¬ ((decide ((v.den e).cells.size≠size) || decide (off+(v.den e).cells.size>(cells.map (SC.den e)).toArray.size))=true):=by
      rw [hsz]; simp; exact⟨by simpa using hc.1,by simpa using hc.2⟩
    rw [if_neg hif]
    rw [← Hu e place rest _ out h]
    congr 1
    rw [SA.den_cells]
    rw [show(List.map (SC.den e) v.cells).toArray.zipIdx=((v.cells.zipIdx.map fun x=>(x.1.den e,x.2))).toArray from by
      simp [List.zipIdx_map]]
    simp only [List.foldl_toArray']
    exact Ko e off _ _
def DR (m:TM) (x:Operand):Option SA:=match ev m x with | some (.one v)=>some v | _=>none
theorem Ap {N:Nat} {e:AJ} {m:TM} {t:Array Value} {d:List Deferred} {x:Operand} {v:SA} (hk:Kn N e m t) (h:DR m x=some v):(Act.mk t d).eval x=v.den e:=by
  unfold DR at h
  split at h
  · rename_i u hu
    simp at h; subst h
    exact F3 hk hu
  simp at h
def Gf (m:TM):List (Nat×Operand)→Option (List (Nat×SA))
  | []=>some []
  | (i,x)::r=>match DR m x,Gf m r with
    | some v,some vs=>some ((i,v)::vs)
    | _,_=>none
theorem Gg {N:Nat} {e:AJ} {m:TM} {t:Array Value} {d:List Deferred} (hk:Kn N e m t):∀ {l:List (Nat×Operand)} {vs:List (Nat×SA)},Gf m l=some vs →
    (l.map fun(i,x)=>(i,(Act.mk t d).eval x))=vs.map fun x=>(x.1,x.2.den e)
  | [],vs,h=>by simp [Gf] at h; subst h; rfl
  | (i,x)::r,vs,h=>by
    unfold Gf at h
    split at h
    · rename_i v us hv hus
      simp at h; subst h
      have:=Gg (d:=d) hk hus
      simp only [List.map_cons,Ap hk hv]
      rw [this]
    simp at h
def places (P:Program):List Field→Option (List (Nat×Nat))
  | []=>some []
  | f::r=>match FW P f.type,places P r with
    | some n,some ps=>some ((f.offset,n)::ps)
    | _,_=>none
theorem LJ {P:Program} (w:World):∀ {fs:List Field} {ps:List (Nat×Nat)},places P fs=some ps →
    (fs.mapM fun f=>(do pure (f.offset,← sizeOf f.type):Sem (Nat×Nat))).run P w=.ok ps w
  | [],ps,h=>by simp [places] at h; subst h; rfl
  | f::r,ps,h=>by
    unfold places at h
    split at h
    · rename_i n qs hn hqs
      simp at h; subst h
      have:=LJ w hqs
      rw [List.mapM_cons]
      simp only [Sem.run_bind,BP w hn,Result.andThen_ok,Sem.run_pure,this]
    simp at h
def Jh (P:Program) (T:TypeId):Option (List SC):=match P.info? T with
  | some i=>match i.zero with
    | some v=>HR v.cells.toList
    | none=>none
  | none=>none
theorem EA {P:Program} {T:TypeId} {cs:List SC} (e:AJ) (w:World) (h:Jh P T=some cs):∃ z,(zeroValue T).run P w=.ok z w∧z.cells=(cs.map (SC.den e)).toArray:=by
  unfold Jh at h
  split at h
  · rename_i i hi
    split at h
    · rename_i v hv
      refine⟨v,by simp [zeroValue,typeInfo,hi,hv],?_⟩
      rw [Is e h]
    simp at h
  simp at h
def Vz (P:Program) (m:TM) (c:Call):Option SV :=
  match c.callee,c.args.toList with
  | .builtin .len,[x]=>match c.argTypes.toList with
    | [T]=>match P.underlying T,DR m x with
      | some (.slice _),some (.c (.slice _ n _))=>some (.one (.c (.int .i64 (n:Int))))
      | some .string,some (.c (.str s))=>some (.one (.c (.int .i64 (s.size:Int))))
      | _,_=>none
    | _=>none
  | .builtin .max,[x,y]=>match DR m x,DR m y with
    | some (.c (.int k a)),some (.c (.int _ b))=>some (.one (.c (.int k (if b>a then b else a))))
    | _,_=>none
  | .builtin .min,[x,y]=>match DR m x,DR m y with
    | some (.c (.int k a)),some (.c (.int _ b))=>some (.one (.c (.int k (if b<a then b else a))))
    | _,_=>none
  | _,_=>none
theorem JR {α:Type} {a:Array α} {l:List α} (h:a.toList=l):a=l.toArray:=by rw [← h]
theorem RZ {P:Program} {N:Nat} {e:AJ} {m:TM} {t:Array Value} {d:List Deferred} {w:World} {c:Call} {T:TypeId} {v:SV} (hk:Kn N e m t)
    (h:Vz P m c=some v):(do let dd←resolve (Act.mk t d).eval c T; invoke dd.target dd.args:Sem Next).run P w=.ok (.value (v.den e)) w:=by
  obtain⟨callee,args,argTypes⟩:=c
  unfold Vz at h
  simp only at h
  split at h
  · rename_i x hargs
    have hargs:=JR hargs
    subst hargs
    split at h
    · rename_i U hT
      have hT:=JR hT
      subst hT
      split at h
      · rename_i hT hx
        simp only [Option.some.injEq] at h; subst h
        simp [resolve,invoke,builtin,Builtin.len_,Ap hk hx,run_underlying hT,SA.den,SC.den,SV.den,goInt]
      · rename_i hT hx
        simp only [Option.some.injEq] at h; subst h
        simp [resolve,invoke,builtin,Builtin.len_,Ap hk hx,run_underlying hT,SA.den,SC.den,SV.den,goInt]
      simp at h
    simp at h
  · rename_i x y hargs
    have hargs:=JR hargs
    subst hargs
    split at h
    · rename_i hx hy
      simp only [Option.some.injEq] at h; subst h
      simp [resolve,invoke,builtin,Builtin.max_,Builtin.max2,Ap hk hx,Ap hk hy,SA.den,SC.den,SV.den]
    simp at h
  · rename_i x y hargs
    have hargs:=JR hargs
    subst hargs
    split at h
    · rename_i hx hy
      simp only [Option.some.injEq] at h; subst h
      simp [resolve,invoke,builtin,Builtin.min_,Builtin.min2,Ap hk hx,Ap hk hy,SA.den,SC.den,SV.den]
    simp at h
  simp at h
def V0 (P:Program) (T:TypeId) (x y:SC):Option Bool:=match x,y with
  | .int k a,.int k' b=>match P.underlying T with
    | some (.int _)=>if k=k' then some (a == b) else none
    | _=>none
  | .bool a,.bool b=>match P.underlying T with
    | some .bool=>some (a == b)
    | _=>none
  | _,_=>none
theorem Sa {P:Program} {T:TypeId} {x y:SC} {b:Bool} (e:AJ) (w:World) (d:Nat) (h:V0 P T x y=some b):(Op.equalIn (d+1) T (x.den e) (y.den e)).run P w=.ok b w:=by
  unfold V0 at h
  split at h
  · split at h
    · rename_i hu
      split at h
      · rename_i hk
        subst hk
        cases h
        exact run_equalIn_int w d T _ _ _ _ hu
      cases h
    cases h
  · split at h
    · rename_i hu
      cases h
      exact run_equalIn_bool' w d T _ _ hu
    cases h
  cases h
def V1 (P:Program) (xs ys:List SC):List Field→Option Bool
  | []=>some true
  | f::fs=>if f.name = "_" then none else match OF P f.type,xs[f.offset]?,ys[f.offset]? with
    | some false,some a,some b=>match V0 P f.type a b,V1 P xs ys fs with
      | some p,some q=>some (p && q)
      | _,_=>none
    | _,_,_=>none
theorem OH {P:Program} {xs ys:List SC} (e:AJ) (w:World) (d:Nat):∀ {fs:List Field} {b:Bool},V1 P xs ys fs=some b→(Op.eqFields (d+1) (xs.map (SC.den e)).toArray (ys.map (SC.den e)).toArray fs).run P w=.ok b w
  | [],b,h=>by cases h; rfl
  | f::fs,b,h=>by
    unfold V1 at h
    split at h
    · cases h
    rename_i hn
    split at h
    · rename_i a c ha hx hy
      split at h
      · rename_i p q hp hq
        cases h
        unfold Op.eqFields
        have h1:(part f.type (xs.map (SC.den e)).toArray f.offset).run P w=.ok (a.den e) w:=by
          unfold part
          simp only [Sem.run_bind,Fi w ha,Result.andThen_ok,Bool.false_eq_true,if_false]
          have:(xs.map (SC.den e)).toArray[f.offset]? = some (a.den e):=by simp [hx]
          rw [this]; rfl
        have h2:(part f.type (ys.map (SC.den e)).toArray f.offset).run P w=.ok (c.den e) w:=by
          unfold part
          simp only [Sem.run_bind,Fi w ha,Result.andThen_ok,Bool.false_eq_true,if_false]
          have:(ys.map (SC.den e)).toArray[f.offset]? = some (c.den e):=by simp [hy]
          rw [this]; rfl
        rw [if_pos hn]
        simp only [Sem.run_bind,h1,h2,Result.andThen_ok,Sa e w d hp]
        cases p
        · rfl
        simp only [Bool.not_true,Bool.false_eq_true,if_false,Bool.true_and]
        exact OH e w d hq
      cases h
    cases h
def Xq (P:Program) (op:BinOp) (T:TypeId) (xs ys:List SC):Option SC:=match P.underlying T with
  | some (.struct fs)=>if P.stoodInHeld T=false∧P.eqGuardType P.depth T=false then match op,V1 P xs ys fs.toList with
      | .eql,some b=>some (.bool b)
      | .neq,some b=>some (.bool !b)
      | _,_=>none
    else none
  | _=>none
theorem Ti {P:Program} {op:BinOp} {T:TypeId} {xs ys:List SC} {c:SC} (e:AJ) (w:World) (ox oy:Operand) (h:Xq P op T xs ys=some c) :
    (do eqGuard op T ox oy (.agg (xs.map (SC.den e)).toArray) (.agg (ys.map (SC.den e)).toArray); binOp op T (.agg (xs.map (SC.den e)).toArray) (.agg (ys.map (SC.den e)).toArray):Sem Value).run P w=.ok (c.den e) w:=by
  unfold Xq at h
  split at h
  · rename_i fs hT
    split at h
    · rename_i hg
      obtain⟨h1,h2⟩:=hg
      have hF:P.fieldsOf T=fs:=by unfold Program.fieldsOf; rw [hT]
      have hrun:∀ b,V1 P xs ys fs.toList=some b→(Op.equalIn 10000 T (.agg (xs.map (SC.den e)).toArray) (.agg (ys.map (SC.den e)).toArray)).run P w=.ok b w:=fun b hb=>by
        rw [show(10000:Nat)=9999+1 from rfl,run_equalIn_struct w 9999 T _ _ (by rw [hF]; exact hT) h1,hF]
        exact OH e w 9998 hb
      simp only [Sem.run_bind,run_eqGuard_agg w op T ox oy _ _ h2,Result.andThen_ok]
      split at h
      · rename_i b hb
        cases h
        rw [run_eql_struct,hrun b hb]; rfl
      · rename_i b hb
        cases h
        rw [run_neq_struct,hrun b hb]; rfl
      cases h
    cases h
  cases h
def WM (P:Program) (m:TM) (pl:List C0):Op→Option SV
  | .move x | .assign x=>ev m x
  | .pick c a b=>match ev m c with
    | some (.one (.c (.bool true)))=>ev m a
    | some (.one (.c (.bool false)))=>ev m b
    | _=>none
  | .load T x=>match ev m x with
    | some (.one (.c (.ptr i off)))=>match pl[i]? with
      | some p=>match OF P T,FW P T with
        | some true,some n=>if ((p.cells.drop off).take n).length=n then some (.one (.agg ((p.cells.drop off).take n))) else none
        | some false,_=>(p.cells[off]?).map fun c=>.one (.c c)
        | _,_=>none
      | none=>none
    | _=>none
  | .binOp op T x y _=>match DR m x,DR m y with
    | some (.c a),some (.c b)=>(Xp P op T a b).map fun c=>.one (.c c)
    | some (.agg a),some (.agg b)=>(Xq P op T a b).map fun c=>.one (.c c)
    | _,_=>none
  | .unOp op _ x=>match op,DR m x with
    | .not,some (.c (.bool b))=>some (.one (.c (.bool !b)))
    | .neg,some (.c (.int k n))=>some (.one (.c (.int k (k.wrap (0-n)))))
    | _,_=>none
  | .convert src dst x=>match P.underlying src,P.underlying dst,DR m x with
    | some (.int _),some (.int k),some (.c (.int _ n))=>some (.one (.c (.int k (k.wrap n))))
    | _,_,_=>none
  | .fieldAddr s x f=>match P.underlying s,DR m x with
    | some (.struct fs),some (.c (.ptr i off))=>match fs[f]? with
      | some fl=>match FW P fl.type with
        | some (_+1)=>some (.one (.c (.ptr i (off+fl.offset))))
        | _=>none
      | none=>none
    | _,_=>none
  | .field T x f=>match P.underlying T,DR m x with
    | some (.struct fs),some (.agg cs)=>match fs[f]? with
      | some fl=>(LI P fl.type cs fl.offset).map .one
      | none=>none
    | _,_=>none
  | .build T ps=>match Jh P T,P.underlying T,Gf m ps.toList with
    | some z,some (.struct fs),some vs=>match places P fs.toList with
      | some pc=>(OG (fun i=>pc.toArray[i]?) z vs).map fun cs=>.one (.agg cs)
      | none=>none
    | some z,some (.array _ E),some vs=>match FW P E with
      | some sz=>(OG (fun i=>some (i*sz,sz)) z vs).map fun cs=>.one (.agg cs)
      | none=>none
    | _,_,_=>none
  | .extract x ix=>match ev m x with
    | some (.tup vs)=>(vs[ix]?).map .one
    | _=>none
  | .call c=>Vz P m c
  | .nilCheck x=>match DR m x with
    | some (.c (.ptr i off))=>some (.one (.c (.ptr i off)))
    | _=>none
  | _=>none
theorem JS {P:Program} {N:Nat} {e:AJ} {m:TM} {t:Array Value} {d:List Deferred} {pl:List C0} {w:World} {o:Oper} {v:SV} (hk:Kn N e m t) (hp:Ay e pl w)
    (h:WM P m pl o.op=some v):(execOp (Act.mk t d).eval o).run P w=.ok (.value (v.den e)) w:=by
  unfold execOp
  generalize o.op=op at h
  cases op <;> simp only [WM] at h <;> try contradiction
  case move x=>simp only [F3 hk h]; rfl
  case nilCheck x =>
    split at h
    · rename_i i off hx
      simp only [Option.some.injEq] at h; subst h
      simp only [Ap hk hx]
      rfl
    simp at h
  case assign x=>simp only [F3 hk h]; rfl
  case pick c a b =>
    split at h
    · rename_i hc
      simp only [F3 hk hc,F3 hk h]
      rfl
    · rename_i hc
      simp only [F3 hk hc,F3 hk h]
      rfl
    simp at h
  case load T x =>
    split at h
    · rename_i i off hx
      split at h
      · rename_i p hpi
        have hcell:=hp i p hpi
        simp only [F3 hk hx]
        split at h
        · rename_i n ha hn
          split at h
          · rename_i hlen
            simp only [Option.some.injEq] at h; subst h
            have hl:(loadCells ⟨(e.blk i).1,(e.blk i).2+off,none⟩ n).run P w=.ok (((p.cells.drop off).take n).map (SC.den e)).toArray w:=by
              have:=run_loadCells_list (P:=P) w ⟨(e.blk i).1,(e.blk i).2+off,none⟩ (((p.cells.drop off).take n).map (SC.den e)) (fun j v hj=>by
                rw [List.getElem?_map] at hj
                obtain⟨c,hc,rfl⟩:=Option.map_eq_some_iff.1 hj
                rw [List.getElem?_take] at hc
                split at hc
                · rw [List.getElem?_drop] at hc
                  have:=hcell (off+j) c hc
                  unfold Addr.add
                  split
                  · subst_vars; simpa using this
                  simpa [Nat.add_assoc] using this
                simp at hc)
              rw [List.length_map,hlen] at this
              exact this
            simp only [Instr.loadAt,Instr.sureAddr,SV.den,SA.den,SC.den,Sem.run_bind,Sem.run_pure,Result.andThen_ok,loadVar,Fi w ha,if_true,BP w hn,hl]
          simp at h
        · rename_i ha
          obtain⟨c,hc,rfl⟩:=Option.map_eq_some_iff.1 h
          have:=hcell off c hc
          simp only [Instr.loadAt,Instr.sureAddr,SV.den,SA.den,SC.den,Sem.run_bind,Sem.run_pure,Result.andThen_ok,loadVar,Fi w ha,Bool.false_eq_true,if_false,run_load,this]
        simp at h
      simp at h
    simp at h
  case binOp op T x y yT =>
    split at h
    · rename_i a b ha hb
      obtain⟨c,hc,rfl⟩:=Option.map_eq_some_iff.1 h
      have:=Th e w x y hc
      simp only [Ap hk ha,Ap hk hb,Sem.run_bind,SA.den] at this ⊢
      rw [this]; rfl
    · rename_i a b ha hb
      obtain⟨c,hc,rfl⟩:=Option.map_eq_some_iff.1 h
      have:=Ti e w x y hc
      simp only [Ap hk ha,Ap hk hb,Sem.run_bind,SA.den] at this ⊢
      rw [this]; rfl
    simp at h
  case unOp op T x =>
    split at h
    · rename_i b hx
      simp only [Option.some.injEq] at h; subst h
      simp [Ap hk hx,SA.den,SC.den,Op.unary,SV.den]
    · rename_i k n hx
      simp only [Option.some.injEq] at h; subst h
      simp [Ap hk hx,SA.den,SC.den,Op.unary,Op.intArith,SV.den]
    simp at h
  case convert src dst x =>
    split at h
    · rename_i k n hs hd hx
      simp only [Option.some.injEq] at h; subst h
      simp only [Ap hk hx,SA.den,SC.den,SV.den,convert,Sem.run_bind,run_underlying hs,run_underlying hd,Result.andThen_ok,Conv.intToInt]
      rfl
    simp at h
  case fieldAddr s x f =>
    split at h
    · rename_i fs i off hs hx
      split at h
      · rename_i fl hf
        split at h
        · rename_i n hn
          simp only [Option.some.injEq] at h; subst h
          simp only [Ap hk hx,SA.den,SC.den,SV.den,Instr.fieldAt,Instr.sureAddr,Sem.run_bind,run_underlying hs,Result.andThen_ok,hf,Sem.run_pure,fieldPlace,BP w hn]
          simp [Addr.add]
          split
          · simp_all
          simp [Nat.add_assoc]
        simp at h
      simp at h
    simp at h
  case field T x f =>
    split at h
    · rename_i fs cs hs hx
      split at h
      · rename_i fl hf
        obtain⟨c,hc,rfl⟩:=Option.map_eq_some_iff.1 h
        have:=Ew e w hc
        simp only [Ap hk hx,SA.den,Instr.field,asAgg,Sem.run_bind,run_underlying hs,Result.andThen_ok,hf,Sem.run_pure,this,SV.den]
      simp at h
    simp at h
  case build T ps =>
    split at h
    · rename_i z fs vs hz hs hps
      split at h
      · rename_i pc hpc
        obtain⟨c,hc,rfl⟩:=Option.map_eq_some_iff.1 h
        obtain⟨zv,hzv,hzc⟩:=EA e w hz
        have h1:=Hu e _ _ _ _ hc
        have h2:=LJ w hpc
        have h3:(Array.mapM (fun f=>(do pure (f.offset,← sizeOf f.type):Sem (Nat×Nat))) fs).run P w=.ok pc.toArray w:=by
          rw [← Array.toArray_toList (xs:=fs),List.mapM_toArray]
          simp only [Sem.run_map,h2,Result.andThen_ok]
        have h4:=Gg (d:=d) hk hps
        simp only [Instr.build,Sem.run_bind,hzv,Result.andThen_ok,run_underlying hs,h3,hzc]
        have h5:(Array.map (fun x=>(x.1,(Act.mk t d).eval x.2)) ps).toList=vs.map fun x=>(x.1,x.2.den e):=by
          rw [← h4]; simp
        simp only [h5,h1]
        rfl
      simp at h
    · rename_i z q E vs hz hs hps
      split at h
      · rename_i sz hsz
        obtain⟨c,hc,rfl⟩:=Option.map_eq_some_iff.1 h
        obtain⟨zv,hzv,hzc⟩:=EA e w hz
        have h1:=Hu e _ _ _ _ hc
        have h4:=Gg (d:=d) hk hps
        simp only [Instr.build,Sem.run_bind,hzv,Result.andThen_ok,run_underlying hs,BP w hsz,hzc]
        have h5:(Array.map (fun x=>(x.1,(Act.mk t d).eval x.2)) ps).toList=vs.map fun x=>(x.1,x.2.den e):=by
          rw [← h4]; simp
        simp only [h5,h1]
        rfl
      simp at h
    simp at h
  case extract x ix =>
    split at h
    · rename_i vs hx
      obtain⟨c,hc,rfl⟩:=Option.map_eq_some_iff.1 h
      simp [F3 hk hx,SV.den,Instr.extract,hc]
    simp at h
  case call c=>exact RZ hk h
open Go Go.RowKit
def QM (ops:Array Oper) (m:TM) (o:Oper):Option Bool :=
  match o.guard with
  | none=>some true
  | some (j,want)=>match (ops[j]?).bind (·.dst) with
    | some d=>match m.get d with
      | some (.one (.c (.bool b)))=>some (b == want)
      | some .undef=>some false
      | _=>none
    | none=>none
theorem Al {N:Nat} {e:AJ} {m:TM} {t:Array Value} {ops:Array Oper} {o:Oper} {b:Bool} (hk:Kn N e m t) (h:QM ops m o=some b) :
    Region.wanted o (yielded ops t)=b:=by
  unfold QM at h
  unfold Region.wanted
  split at h
  · rename_i hg; simp at h; subst h; simp [hg]
  rename_i j want hg
  simp only [hg]
  split at h
  · rename_i d hd
    split at h
    · rename_i c hm
      have:=hk.get _ _ hm
      simp only [Option.some.injEq] at h; subst h
      unfold yielded
      rw [hd]
      simp [this,SV.den,SA.den,SC.den]
    · rename_i hm
      have:=hk.get _ _ hm
      simp only [Option.some.injEq] at h; subst h
      unfold yielded
      rw [hd]
      simp [this,SV.den,Go.undef]
    simp at h
  simp at h
def TN (P:Program) (ops:Array Oper) (N:Nat) (pl:List C0) (m:TM) (i:Nat):Option TM :=
  match ops[i]? with
  | some o=>match QM ops m o with
    | some true=>match WM P m pl o.op,o.dst with
      | some v,some d=>if d<N then some (m.put d v) else none
      | _,_=>none
    | some false=>match o.dst with
      | some d=>if d<N then some (m.put d .undef) else none
      | none=>some m
    | none=>none
  | none=>none
def Gh (o:Oper):Bool:=match o.op with | .load ..=>false | _=>true
theorem V2 {P:Program} {m:TM} {pl:List C0} {o:Oper} {v:SV} (hf:Gh o=true) (h:WM P m pl o.op=some v):WM P m [] o.op=some v:=by
  unfold Gh at hf
  generalize o.op=op at h hf
  cases op <;> first | exact h | cases hf
theorem QN {a:Act} {d:List Deferred} (h:a.defers=d):a=Act.mk a.tmps d:=by cases a; subst h; rfl
section
variable {P:Program} {ops:Array Oper} {N:Nat} {e:AJ} {m m':TM} {t:Array Value} {d:List Deferred} {pl:List C0} {w:World} {Q:Exit→Act→World→Prop}
theorem Ji {i:Nat} (hk:Kn N e m t) (h:TN P ops N pl m i=some m') :
    ∃ o v,ops[i]? = some o∧Kn N e m' ((Act.mk t d).put o.dst v).tmps∧((Act.mk t d).put o.dst v).defers=d ∧
      ((Region.wanted o (yielded ops t)=true∧∀ w,Ay e pl w→(execOp (Act.mk t d).eval o).run P w=.ok (.value v) w)∨(Region.wanted o (yielded ops t)=false∧v=undef))∧(Gh o=true→Yields P ops o v ⟨t,d⟩):=by
  unfold TN at h
  split at h
  · rename_i o ho
    split at h
    · rename_i hw
      split at h
      · rename_i v dd hv hd
        split at h
        · rename_i hlt
          simp only [Option.some.injEq] at h; subst h
          refine⟨o,v.den e,ho,?_,?_,.inl ⟨Al hk hw,fun w hp=>JS hk hp hv⟩,fun hf=>.inl ⟨Al hk hw,fun w=>JS hk (pl:=[]) (fun i p hp=>by simp at hp) (V2 hf hv)⟩⟩
          · simp only [hd,Act.put]; exact hk.put hlt v
          simp only [hd,Act.put]
        simp at h
      simp at h
    · rename_i hw
      split at h
      · rename_i dd hd
        split at h
        · rename_i hlt
          simp only [Option.some.injEq] at h; subst h
          refine⟨o,undef,ho,?_,?_,.inr ⟨Al hk hw,rfl⟩,fun _=>.inr ⟨Al hk hw,rfl⟩⟩
          · simp only [hd,Act.put]; exact hk.put hlt .undef
          simp only [hd,Act.put]
        simp at h
      rename_i hd
      simp only [Option.some.injEq] at h; subst h
      refine⟨o,undef,ho,?_,?_,.inr ⟨Al hk hw,rfl⟩,fun _=>.inr ⟨Al hk hw,rfl⟩⟩
      · simp only [hd,Act.put]; exact hk
      simp only [hd,Act.put]
    simp at h
  simp at h
def Cc (P:Program) (ops:Array Oper) (Q:Exit→Act→World→Prop) (i:Nat) (a:Act) (w:World):Prop:=wpOps P ops Q (List.range' i (ops.size-i)) a w
theorem Aa {id:Nat} {a:Act} (h:Cc P ops Q 0 a w):(Code.region id ops false).wp P Q a w:=by
  refine wp_region ?_
  unfold Cc at h
  rw [List.range_eq_range']
  simpa using h
theorem Tj {i:Nat} {a:Act} (hi:ops.size≤i) (h:Q .normal a w):Cc P ops Q i a w:=by
  unfold Cc
  rw [show ops.size-i=0 by omega]
  exact h
theorem Qe {i:Nat} {a:Act} (hi:i<ops.size) (h:wpOp P ops Q i (Cc P ops Q (i+1)) a w):Cc P ops Q i a w:=by
  unfold Cc
  rw [show ops.size-i=(ops.size-(i+1))+1 by omega,List.range'_succ,wpOps_cons]
  exact h
theorem AD {i:Nat} {a:Act} (o:Oper) (hi:ops[i]? = some o) (hw:Region.wanted o (yielded ops a.tmps)=true)
    (h:∀ K:Act→World→Prop,(∀ a' w',Cc P ops Q (i+1) a' w'→K a' w')→o.wp P a w K Q):Cc P ops Q i a w:=by
  have hlt:i<ops.size:=by
    rcases Nat.lt_or_ge i ops.size with h' | h'
    · exact h'
    rw [Array.getElem?_eq_none h'] at hi; cases hi
  refine Qe hlt ?_
  unfold wpOp
  simp only [hi,hw,if_true]
  exact .inl (h _ fun _ _ h=>h)
def PC (P:Program) (ops:Array Oper) (N:Nat) (pl:List C0):Nat→Nat→TM→Option TM
  | _,0,m=>some m
  | i,n+1,m=>match TN P ops N pl m i with
    | some m'=>PC P ops N pl (i+1) n m'
    | none=>none
theorem OI (hp:Ay e pl w):∀ (n i:Nat)(m m':TM)(t:Array Value),Kn N e m t→PC P ops N pl i n m=some m' →
    (∀ t',Kn N e m' t'→Cc P ops Q (i+n) ⟨t',d⟩ w)→Cc P ops Q i ⟨t,d⟩ w
  | 0,i,m,m',t,hk,h,H=>by
    simp [PC] at h; subst h
    exact H t hk
  | n+1,i,m,m',t,hk,h,H=>by
    unfold PC at h
    split at h
    · rename_i m1 h1
      obtain⟨o,v,ho,hk',hd,hv,_⟩:=Ji (d:=d) hk h1
      have hlt:i<ops.size:=by
        rcases Nat.lt_or_ge i ops.size with h' | h'
        · exact h'
        rw [Array.getElem?_eq_none h'] at ho; cases ho
      refine Qe hlt ?_
      have hrest:Cc P ops Q (i+1) ((Act.mk t d).put o.dst v) w:=by
        have:=OI hp n (i+1) m1 m' _ hk' h (fun t' hk''=>by rw [show i+1+n=i+(n+1) by omega]; exact H t' hk'')
        have e:(Act.mk t d).put o.dst v=Act.mk ((Act.mk t d).put o.dst v).tmps d:=QN hd
        rw [e]; exact this
      unfold wpOp
      simp only [ho]
      rcases hv with⟨hw,hv⟩ | ⟨hw,rfl⟩
      · simp only [hw,if_true]
        refine .inl ?_
        unfold Oper.wp Oper.upon
        rw [hv w hp]
        exact hrest
      simp only [hw,Bool.false_eq_true,if_false]
      exact hrest
    simp at h
theorem F4 (i n:Nat) (ks:List Nat) (m':TM) (hk:Kn N e m t) (hp:Ay e pl w) (h:(PC P ops N pl i n m).map (fun x=>FV x ks)=some m')
    (H:∀ t',Kn N e m' t'→Cc P ops Q (i+n) ⟨t',d⟩ w):Cc P ops Q i ⟨t,d⟩ w:=by
  obtain⟨m1,h1,rfl⟩:=Option.map_eq_some_iff.1 h
  exact OI hp n i m m1 t hk h1 fun t' hk'=>H t' (hk'.sub (Fh _ _))
end
section
variable {P:Program} {ops:Array Oper} {X:List Nat} {Q:Exit→Act→World→Prop} {S:World→Prop}
def Jj (ops:Array Oper):Nat→Nat→Nat→Bool
  | 0,_,_=>false
  | n+1,a,b=>match ops[a]? with
    | some o=>o.after.any fun e=>Region.binds .any e && (e.on == b || Jj ops n e.on b)
    | none=>false
def Jk (ops:Array Oper) (X:List Nat) (j:Nat):Bool :=
  match ops[j]? with
  | some _=>(List.range ops.size).all fun k=>k == j || Jj ops ops.size j k ||
      (match ops[k]? with | some ok=>Gh ok || X.contains k || Jj ops ops.size k j | none=>true)
  | none=>false
def PD (ops:Array Oper) (listed:Array Bool):Prop:=∀ (a:Nat)(o:Oper),ops[a]? = some o→listed.getD a false=true→∀ e∈o.after,Region.binds .any e=true→listed.getD e.on false=true
theorem It {ops:Array Oper} {listed:Array Bool} (hs:PD ops listed):∀ (n a b:Nat)(o:Oper),ops[a]? = some o→(∀ e∈o.after,Region.binds .any e=true→listed.getD e.on false=true)→Jj ops n a b=true→listed.getD b false=true
  | 0,_,_,_,_,_,h=>by simp [Jj] at h
  | n+1,a,b,o,ho,hp,h=>by
    unfold Jj at h
    rw [ho] at h
    simp only [Array.any_eq_true',Bool.and_eq_true,Bool.or_eq_true,beq_iff_eq] at h
    obtain⟨e,he,hb,heq | hr⟩:=h
    · rw [← heq]; exact hp e he hb
    cases ho2:ops[e.on]? with
    | none =>
      cases n with
      | zero=>simp [Jj] at hr
      | succ n=>unfold Jj at hr; rw [ho2] at hr; cases hr
    | some o2=>exact It hs n e.on b o2 ho2 (fun e2 he2 hb2=>hs e.on o2 ho2 (hp e he hb) e2 he2 hb2) hr
theorem PD.add {ops:Array Oper} {listed:Array Bool} (hs:PD ops listed) {j:Nat} (hj:j∈Region.ready .any ops listed):PD ops (listed.setIfInBounds j true):=fun a o ho hl e he hb=>by
  by_cases haj:j=a
  · subst haj
    obtain⟨_,o',ho',hall⟩:=mem_ready.1 hj
    rw [ho] at ho'
    cases ho'
    exact getD_set_true (hall e he hb)
  rw [getD_set_ne false haj] at hl
  exact getD_set_true (hs a o ho hl e he hb)
theorem Sb {b:Bool} {listed:Array Bool} {i:Nat} (h0:listed.getD i true=false) (h1:listed.getD i false=true):b=true:=by
  rcases Nat.lt_or_ge i listed.size with h' | h'
  · simp [h'] at h0 h1; rw [h0] at h1; cases h1
  simp [Array.getElem?_eq_none h'] at h1
def Iu (P:Program) (ops:Array Oper) (X:List Nat) (Q:Exit→Act→World→Prop) (S:World→Prop):Nat→Array Bool→Act→World→Prop
  | 0,listed,a,w=>Region.ready .any ops listed=[]∧Q .normal a w
  | fuel+1,listed,a,w =>
    (Region.ready .any ops listed=[]→Q .normal a w) ∧
    ∀ i∈Region.ready .any ops listed,wpOp P ops Q i (fun a' w'=>(Jk ops X i=true∧wpAny P .any ops Q fuel (listed.setIfInBounds i true) a' w')∨(S w'∧Iu P ops X Q S fuel (listed.setIfInBounds i true) a' w')) a w
theorem OJ:∀ (fuel:Nat)(listed:Array Bool)(a:Act)(w:World),Iu P ops X Q S fuel listed a w→wpAny P .any ops Q fuel listed a w
  | 0,_,_,_,h=>h
  | fuel+1,_,_,_,h=>⟨h.1,fun i hi=>wpOp_mono (fun a' w' h'=>h'.elim (·.2) fun h'=>OJ fuel _ a' w' h'.2) (h.2 i hi)⟩
theorem Jl {S':World→Prop} (hS:∀ w,S' w→S w):∀ (fuel:Nat)(listed:Array Bool)(a:Act)(w:World),Iu P ops X Q S' fuel listed a w→Iu P ops X Q S fuel listed a w
  | 0,_,_,_,h=>h
  | fuel+1,_,_,_,h=>⟨h.1,fun i hi=>wpOp_mono (fun a' w' h'=>h'.imp id fun h'=>⟨hS _ h'.1,Jl hS fuel _ a' w' h'.2⟩) (h.2 i hi)⟩
theorem PE {i:Nat} {oi:Oper} {v:Value} (hi:ops[i]? = some oi) (hs:Region.noSelect ops=true)
    (hQ:∀ c a w,Q (.panic c) (a.put oi.dst v) w→Q (.panic c) a w) :
    ∀ (fuel:Nat)(listed:Array Bool)(a:Act)(w:World),
      (∀ j oj,ops[j]? = some oj→j≠i→listed.getD j true=false→(∀ e∈oj.after,Region.binds .any e=true→e.on≠i)→oi.apart ops oj=true) →
      i∈Region.ready .any ops listed→Yields P ops oi v a→S w →
      Iu P ops X Q S fuel (listed.setIfInBounds i true) (a.put oi.dst v) w→Iu P ops X Q S (fuel+1) listed a w:=by
  intro fuel
  induction fuel with
  | zero =>
    intro listed a w _ hr hy hS H
    refine⟨fun h=>(by rw [h] at hr; cases hr),fun j hj=>?_⟩
    by_cases hji:j=i
    · subst hji; exact hy.wpOp hi (.inr ⟨hS,H⟩)
    have:=ready_mono hj hji
    rw [H.1] at this
    cases this
  | succ fuel ih =>
    intro listed a w hfree hr hy hS H
    refine⟨fun h=>(by rw [h] at hr; cases hr),fun j hj=>?_⟩
    by_cases hji:j=i
    · subst hji; exact hy.wpOp hi (.inr ⟨hS,H⟩)
    have h1:=H.2 j (ready_mono hj hji)
    obtain⟨hjun,oj,hoj,hall⟩:=mem_ready.1 hj
    have hnot:∀ e∈oj.after,Region.binds .any e=true→e.on≠i:=fun e he hb heq=>by
      have h1:=hall e he hb
      have h0:=(mem_ready.1 hr).1
      rw [heq] at h1
      rcases Nat.lt_or_ge i listed.size with h' | h'
      · simp [h'] at h0 h1; rw [h0] at h1; cases h1
      simp [Array.getElem?_eq_none h'] at h1
    have hnot2:∀ e∈oi.after,Region.binds .any e=true→e.on≠j:=fun e he hb heq=>by
      obtain⟨_,oi',hoi',hall'⟩:=mem_ready.1 hr
      rw [hi] at hoi'
      cases hoi'
      have h1:=hall' e he hb
      rw [heq] at h1
      rcases Nat.lt_or_ge j listed.size with h' | h'
      · simp [h'] at hjun h1; rw [hjun] at h1; cases h1
      simp [Array.getElem?_eq_none h'] at h1
    have h2:=wpOp_put hoj (hfree j oj hoj hji hjun hnot) (fun cs b=>Region.noSelect_spec hs i oi cs b hi) (fun cs b=>Region.noSelect_spec hs j oj cs b hoj) hQ hy h1
    have hfree':∀ k ok,ops[k]? = some ok→k≠i→(listed.setIfInBounds j true).getD k true=false →
        (∀ e∈ok.after,Region.binds .any e=true→e.on≠i)→oi.apart ops ok=true:=fun k ok hk hki hun hno=>by
      refine hfree k ok hk hki ?_ hno
      by_cases hjk:j=k
      · subst hjk; exact hjun
      rw [getD_set_ne true hjk] at hun; exact hun
    refine wpOp_mono (fun a' w' h3=>?_) h2
    rcases h3.2 with h4 | h4
    · refine .inl ⟨h4.1,?_⟩
      have:=wpAny_first (md:=.any) hi (Region.noSelect_spec hs) hQ fuel (listed.setIfInBounds j true) a' w' hfree' (ready_mono hr (Ne.symm hji)) h3.1
      refine this ?_
      rw [Array.setIfInBounds_comm _ _ hji]
      exact h4.2
    refine .inr ⟨h4.1,ih (listed.setIfInBounds j true) a' w' hfree' (ready_mono hr (Ne.symm hji)) h3.1 h4.1 ?_⟩
    rw [Array.setIfInBounds_comm _ _ hji]
    exact h4.2
theorem QO {i:Nat} {oi:Oper} {v:Value} (hi:ops[i]? = some oi) (hs:Region.noSelect ops=true) (hmf:Gh oi=false) (hX:X.contains i=false)
    (hQ:∀ c a w,Q (.panic c) (a.put oi.dst v) w→Q (.panic c) a w) :
    ∀ (fuel:Nat)(listed:Array Bool)(a:Act)(w:World),
      (∀ j oj,ops[j]? = some oj→j≠i→listed.getD j true=false→(∀ e∈oj.after,Region.binds .any e=true→e.on≠i)→oi.apart ops oj=true) →
      PD ops listed→i∈Region.ready .any ops listed→YieldsIf P ops S oi v a→S w →
      Iu P ops X Q S fuel (listed.setIfInBounds i true) (a.put oi.dst v) w→Iu P ops X Q S (fuel+1) listed a w:=by
  intro fuel
  induction fuel with
  | zero =>
    intro listed a w _ _ hr hy hS H
    refine⟨fun h=>(by rw [h] at hr; cases hr),fun j hj=>?_⟩
    by_cases hji:j=i
    · subst hji; exact hy.wpOp hi hS (.inr ⟨hS,H⟩)
    have:=ready_mono hj hji
    rw [H.1] at this
    cases this
  | succ fuel ih =>
    intro listed a w hfree hsh hr hy hS H
    refine⟨fun h=>(by rw [h] at hr; cases hr),fun j hj=>?_⟩
    by_cases hji:j=i
    · subst hji; exact hy.wpOp hi hS (.inr ⟨hS,H⟩)
    have h1:=H.2 j (ready_mono hj hji)
    obtain⟨hjun,oj,hoj,hall⟩:=mem_ready.1 hj
    have hnot:∀ e∈oj.after,Region.binds .any e=true→e.on≠i:=fun e he hb heq=>by
      have h1:=hall e he hb
      have h0:=(mem_ready.1 hr).1
      rw [heq] at h1
      rcases Nat.lt_or_ge i listed.size with h' | h'
      · simp [h'] at h0 h1; rw [h0] at h1; cases h1
      simp [Array.getElem?_eq_none h'] at h1
    have hnot2:∀ e∈oi.after,Region.binds .any e=true→e.on≠j:=fun e he hb heq=>by
      obtain⟨_,oi',hoi',hall'⟩:=mem_ready.1 hr
      rw [hi] at hoi'
      cases hoi'
      have h1:=hall' e he hb
      rw [heq] at h1
      rcases Nat.lt_or_ge j listed.size with h' | h'
      · simp [h'] at hjun h1; rw [hjun] at h1; cases h1
      simp [Array.getElem?_eq_none h'] at h1
    have h2:=wpOp_putIf hoj (hfree j oj hoj hji hjun hnot) (fun cs b=>Region.noSelect_spec hs i oi cs b hi) (fun cs b=>Region.noSelect_spec hs j oj cs b hoj) hQ hy h1
    have hfree':∀ k ok,ops[k]? = some ok→k≠i→(listed.setIfInBounds j true).getD k true=false →
        (∀ e∈ok.after,Region.binds .any e=true→e.on≠i)→oi.apart ops ok=true:=fun k ok hk hki hun hno=>by
      refine hfree k ok hk hki ?_ hno
      by_cases hjk:j=k
      · subst hjk; exact hjun
      rw [getD_set_ne true hjk] at hun; exact hun
    have hlast:Jk ops X j=false:=by
      cases hl:Jk ops X j with
      | false=>rfl
      | true =>
        unfold Jk at hl
        rw [hoj] at hl
        have hsz:i<ops.size:=by
          rcases Nat.lt_or_ge i ops.size with h' | h'
          · exact h'
          rw [Array.getElem?_eq_none h'] at hi; cases hi
        have h3:=List.all_eq_true.1 hl i (by simpa using hsz)
        rw [hi] at h3
        simp only [hmf,hX,Bool.false_or,Bool.or_eq_true,beq_iff_eq] at h3
        obtain⟨hiun,oi',hoi',halli⟩:=mem_ready.1 hr
        rw [hi] at hoi'
        cases hoi'
        rcases h3 with(h3 | h3) | h3
        · exact absurd h3 (Ne.symm hji)
        · exact absurd (Sb (b:=false) hiun (It hsh _ j i oj hoj hall h3)) (by simp)
        exact absurd (Sb (b:=false) hjun (It hsh _ i j oi hi halli h3)) (by simp)
    refine wpOp_mono (fun a' w' h3=>.inr ?_) h2
    have h4:=h3.2.resolve_left (fun h=>by rw [hlast] at h; cases h.1)
    refine⟨h4.1,ih (listed.setIfInBounds j true) a' w' hfree' (hsh.add hj) (ready_mono hr (Ne.symm hji)) h3.1 h4.1 ?_⟩
    rw [Array.setIfInBounds_comm _ _ hji]
    exact h4.2
def AY (n:Nat):List Nat→Array Bool
  | []=>Array.replicate n false
  | i::r=>(AY n r).setIfInBounds i true
def FK (P:Program) (ops:Array Oper) (X:List Nat) (Q:Exit→Act→World→Prop) (e:AJ) (pl:List C0) (done:List Nat) (a:Act) (w:World):Prop :=
  Iu P ops X Q (Ay e pl) (ops.size-done.length) (AY ops.size done) a w
def Wf (P:Program) (ops:Array Oper) (Q:Exit→Act→World→Prop) (done:List Nat) (a:Act) (w:World):Prop :=
  wpAny P .any ops Q (ops.size-done.length) (AY ops.size done) a w
theorem Au {id:Nat} {a:Act} {w:World} (hm:P.follows .mixedOrders=true) (h:Wf P ops Q [] a w.drew):(Code.region id ops true).wp P Q a w :=
  wp_region_any hm (by unfold Wf at h; simpa [AY] using h)
theorem Ax (X:List Nat) (e:AJ) (pl:List C0) {done:List Nat} {a:Act} {w:World} (h:FK P ops X Q e pl done a w):Wf P ops Q done a w:=OJ _ _ _ _ h
theorem Iv {done:List Nat} {a:Act} {w:World} (hr:Region.ready .any ops (AY ops.size done)=[]) (h:Q .normal a w):Wf P ops Q done a w:=by
  unfold Wf
  generalize ops.size-done.length=f
  cases f with
  | zero=>exact⟨hr,h⟩
  | succ f=>exact⟨fun _=>h,by rw [hr]; simp⟩
theorem AL {e:AJ} {pl:List C0} {done:List Nat} {a:Act} {w:World} (hr:Region.ready .any ops (AY ops.size done)=[]) (h:Q .normal a w):FK P ops X Q e pl done a w:=by
  unfold FK
  generalize ops.size-done.length=f
  cases f with
  | zero=>exact⟨hr,h⟩
  | succ f=>exact⟨fun _=>h,by rw [hr]; simp⟩
def V3 (ops:Array Oper) (done:List Nat):Bool:=done.all fun a=>match ops[a]? with
  | some o=>o.after.all fun e=>!Region.binds .any e || (AY ops.size done).getD e.on false
  | none=>true
theorem LK {n:Nat}:∀ {done:List Nat} {a:Nat},(AY n done).getD a false=true→a∈done
  | [],a,h=>by
    unfold AY at h
    rcases Nat.lt_or_ge a n with h' | h'
    · simp [h'] at h
    simp [Nat.not_lt.2 h'] at h
  | i::r,a,h=>by
    unfold AY at h
    by_cases hia:i=a
    · subst hia; exact List.mem_cons_self
    rw [getD_set_ne false hia] at h
    exact List.mem_cons_of_mem _ (LK h)
theorem Jm {ops:Array Oper} {done:List Nat} (h:V3 ops done=true):PD ops (AY ops.size done):=fun a o ho hl e he hb=>by
  have h1:=List.all_eq_true.1 h a (LK hl)
  rw [ho] at h1
  have h2:=Array.all_eq_true'.1 h1 e he
  rw [hb] at h2
  simpa using h2
def MH (ops:Array Oper) (X:List Nat) (done:List Nat) (i:Nat):Bool :=
  (match ops[i]? with | some o=>Gh o || !X.contains i | none=>false) && decide (done.length<ops.size) && Region.free .any ops (AY ops.size done) i && (Region.ready .any ops (AY ops.size done)).contains i
def KF (ops:Array Oper) (X:List Nat) (done:List Nat) (i:Nat):Bool:=MH ops X done i && V3 ops done
theorem Qf {e:AJ} {pl:List C0} {done:List Nat} {a:Act} {w:World} {i:Nat} {oi:Oper} {v:Value} (hi:ops[i]? = some oi) (hs:Region.noSelect ops=true) (hf:MH ops X done i=true) (hsh:PD ops (AY ops.size done))
    (hQ:∀ c a w,Q (.panic c) (a.put oi.dst v) w→Q (.panic c) a w) (hS:Ay e pl w) (hy:YieldsIf P ops (Ay e pl) oi v a) (hyf:Gh oi=true→Yields P ops oi v a)
    (h:FK P ops X Q e pl (i::done) (a.put oi.dst v) w):FK P ops X Q e pl done a w:=by
  unfold MH at hf
  rw [hi] at hf
  simp only [Bool.and_eq_true,decide_eq_true_eq] at hf
  obtain⟨⟨⟨hx,hl⟩,hf⟩,hr⟩:=hf
  unfold FK at *
  rw [show ops.size-done.length=(ops.size-(i::done).length)+1 by simp; omega]
  cases hmf:Gh oi with
  | false=>exact QO hi hs hmf (by simpa [hmf] using hx) hQ _ _ a w (Region.free_spec hi hf) hsh (by simpa using hr) hy hS h
  | true=>exact PE hi hs hQ _ _ a w (Region.free_spec hi hf) (by simpa using hr) (hyf hmf) hS h
theorem Sc {e:AJ} {pl:List C0} {done:List Nat} {a:Act} {w:World} {i:Nat} {oi:Oper} {v:Value} (hi:ops[i]? = some oi) (hs:Region.noSelect ops=true) (hf:KF ops X done i=true)
    (hQ:∀ c a w,Q (.panic c) (a.put oi.dst v) w→Q (.panic c) a w) (hS:Ay e pl w) (hy:YieldsIf P ops (Ay e pl) oi v a) (hyf:Gh oi=true→Yields P ops oi v a)
    (h:FK P ops X Q e pl (i::done) (a.put oi.dst v) w):FK P ops X Q e pl done a w:=by
  unfold KF at hf
  rw [Bool.and_eq_true] at hf
  exact Qf hi hs hf.1 (Jm hf.2) hQ hS hy hyf h
theorem Sd {ops:Array Oper} {X done:List Nat} {i:Nat} (hf:MH ops X done i=true) (hsh:PD ops (AY ops.size done)):PD ops (AY ops.size (i::done)):=by
  unfold MH at hf
  simp only [Bool.and_eq_true] at hf
  exact hsh.add (by simpa using hf.2)
def Se (P:Program) (ops:Array Oper) (X:List Nat) (N:Nat) (pl:List C0):List Nat→List Nat→TM→Option TM
  | [],_,m=>some m
  | i::r,done,m=>if MH ops X done i then(match TN P ops N pl m i with
    | some m'=>Se P ops X N pl r (i::done) m'
    | none=>none) else none
def Sf (P:Program) (ops:Array Oper) (X:List Nat) (N:Nat) (pl:List C0) (is done:List Nat) (m:TM):Option TM:=if V3 ops done then Se P ops X N pl is done m else none
def QP (Q:Exit→Act→World→Prop):Prop:=∀ c t t' d w,Q (.panic c) ⟨t,d⟩ w→Q (.panic c) ⟨t',d⟩ w
theorem OL {N:Nat} {e:AJ} {pl:List C0} {w:World} {d:List Deferred} (hs:Region.noSelect ops=true) (hQ:QP Q) (hp:Ay e pl w):∀ (is done:List Nat)(m m':TM)(t:Array Value),PD ops (AY ops.size done)→Kn N e m t →
    Se P ops X N pl is done m=some m'→(∀ t',Kn N e m' t'→FK P ops X Q e pl (is.reverseAux done) ⟨t',d⟩ w)→FK P ops X Q e pl done ⟨t,d⟩ w
  | [],done,m,m',t,_,hk,h,H=>by
    simp [Se] at h; subst h
    exact H t hk
  | i::r,done,m,m',t,hsh,hk,h,H=>by
    unfold Se at h
    split at h
    · rename_i hf
      split at h
      · rename_i m1 h1
        obtain⟨o,v,ho,hk',hd,hv,hvf⟩:=Ji (d:=d) hk h1
        have e1:(Act.mk t d).put o.dst v=Act.mk ((Act.mk t d).put o.dst v).tmps d:=QN hd
        refine Qf ho hs hf hsh (v:=v) ?_ hp ?_ hvf ?_
        · intro c a w hq
          cases hdst:o.dst with
          | none=>rw [hdst] at hq; exact hq
          | some x=>rw [hdst] at hq; exact hQ c _ _ _ _ hq
        · rcases hv with⟨hw,hv⟩ | ⟨hw,rfl⟩
          · exact .inl ⟨hw,hv⟩
          exact .inr ⟨hw,rfl⟩
        rw [e1]
        exact OL hs hQ hp r (i::done) m1 m' _ (Sd hf hsh) hk' h H
      simp at h
    simp at h
theorem Dj {N:Nat} {e:AJ} {pl:List C0} {w:World} {d:List Deferred} {m:TM} {t:Array Value} {done:List Nat} (is done' ks:List Nat) (m':TM) (hQ:QP Q) (hk:Kn N e m t) (hp:Ay e pl w)
    (hs:Region.noSelect ops=true) (hd:is.reverseAux done=done') (h:(Sf P ops X N pl is done m).map (fun x=>FV x ks)=some m') (H:∀ t',Kn N e m' t'→FK P ops X Q e pl done' ⟨t',d⟩ w):FK P ops X Q e pl done ⟨t,d⟩ w:=by
  obtain⟨m1,h1,rfl⟩:=Option.map_eq_some_iff.1 h
  subst hd
  unfold Sf at h1
  split at h1
  · rename_i hsh
    exact OL hs hQ hp is done m m1 t (Jm hsh) hk h1 fun t' hk'=>H t' (hk'.sub (Fh _ _))
  cases h1
theorem Jn {N:Nat} {e e':AJ} {pl pl':List C0} {w:World} {d:List Deferred} {m':TM} {t:Array Value} {done:List Nat} (i:Nat) {oi:Oper} {dd:Nat} (v:SV) (hQ:QP Q)
    (hi:ops[i]? = some oi) (hs:Region.noSelect ops=true) (hf:KF ops X done i=true) (hg:Region.wanted oi (yielded ops t)=true) (hdst:oi.dst=some dd) (hS:Ay e pl w)
    (hsub:∀ w,Ay e' pl' w→Ay e pl w)
    (hv:∀ w,(execOp (Act.mk t d).eval oi).run P w=.ok (.value (v.den e')) w)
    (hk':Kn N e' m' (t.setIfInBounds dd (v.den e')))
    (H:∀ t',Kn N e' m' t'→FK P ops X Q e' pl' (i::done) ⟨t',d⟩ w):FK P ops X Q e pl done ⟨t,d⟩ w:=by
  refine Sc hi hs hf (v:=v.den e') ?_ hS (.inl ⟨hg,fun w _=>hv w⟩) (fun _=>.inl ⟨hg,hv⟩) ?_
  · intro c a w hq
    rw [hdst] at hq
    exact hQ c _ _ _ _ hq
  have:=Jl (P:=P) (ops:=ops) (X:=X) (Q:=Q) hsub _ _ _ _ (H _ hk')
  rw [hdst]
  exact this
theorem QQ {e:AJ} {pl:List C0} {w:World} {a:Act} {done:List Nat} (i:Nat) {oi:Oper} (hi:ops[i]? = some oi) (hr:Region.ready .any ops (AY ops.size done)=[i]) (hl:done.length<ops.size)
    (hw:Region.wanted oi (yielded ops a.tmps)=true)
    (h:∀ K:Act→World→Prop,(∀ a' w',Ay e pl w'→FK P ops X Q e pl (i::done) a' w'→K a' w')→oi.wp P a w K Q):FK P ops X Q e pl done a w:=by
  unfold FK at *
  rw [show ops.size-done.length=(ops.size-(i::done).length)+1 by simp; omega]
  refine⟨fun h0=>by rw [hr] at h0; simp at h0,?_⟩
  rw [hr]
  intro j hj
  obtain rfl:j=i:=by simpa using hj
  unfold wpOp
  simp only [hi,hw,if_true]
  exact .inl (h _ fun a' w' h1 h2=>.inr ⟨h1,h2⟩)
theorem CU {e:AJ} {pl:List C0} {w:World} {a:Act} {done:List Nat} (i:Nat) {oi:Oper} (hi:ops[i]? = some oi) (hr:Region.ready .any ops (AY ops.size done)=[i]) (hl:done.length<ops.size)
    (hw:Region.wanted oi (yielded ops a.tmps)=true) (ho:Jk ops X i=true)
    (h:∀ K:Act→World→Prop,(∀ a' w',Wf P ops Q (i::done) a' w'→K a' w')→oi.wp P a w K Q):FK P ops X Q e pl done a w:=by
  unfold FK Wf at *
  rw [show ops.size-done.length=(ops.size-(i::done).length)+1 by simp; omega]
  refine⟨fun h0=>by rw [hr] at h0; simp at h0,?_⟩
  rw [hr]
  intro j hj
  obtain rfl:j=i:=by simpa using hj
  unfold wpOp
  simp only [hi,hw,if_true]
  exact .inl (h _ fun a' w' h1=>.inl ⟨ho,h1⟩)
theorem Gn {e:AJ} {pl:List C0} {w:World} {a:Act} {done:List Nat} (i j:Nat) {oi oj:Oper} (hi:ops[i]? = some oi) (hj:ops[j]? = some oj) (hr:Region.ready .any ops (AY ops.size done)=[i,j]) (hl:done.length<ops.size)
    (hwi:Region.wanted oi (yielded ops a.tmps)=true) (hwj:Region.wanted oj (yielded ops a.tmps)=true)
    (h1:∀ K:Act→World→Prop,(∀ a' w',Ay e pl w'→FK P ops X Q e pl (i::done) a' w'→K a' w')→oi.wp P a w K Q)
    (h2:∀ K:Act→World→Prop,(∀ a' w',Ay e pl w'→FK P ops X Q e pl (j::done) a' w'→K a' w')→oj.wp P a w K Q):FK P ops X Q e pl done a w:=by
  unfold FK at *
  rw [show ops.size-done.length=(ops.size-(i::done).length)+1 by simp; omega]
  refine⟨fun h0=>by rw [hr] at h0; simp at h0,?_⟩
  rw [hr]
  intro k hk
  simp only [List.mem_cons,List.not_mem_nil,or_false] at hk
  unfold wpOp
  rcases hk with rfl | rfl
  · simp only [hi,hwi,if_true]
    exact .inl (h1 _ fun a' w' h1 h2=>.inr ⟨h1,h2⟩)
  simp only [hj,hwj,if_true]
  exact .inl (h2 _ fun a' w' h1 h2=>.inr ⟨h1,h2⟩)
end
end Go.Proofs.YtinminkmefljbaaGreat
