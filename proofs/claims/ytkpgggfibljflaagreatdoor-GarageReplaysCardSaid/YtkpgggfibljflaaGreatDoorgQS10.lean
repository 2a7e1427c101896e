/- What a proof leans on: a machine that steps through code, and what functions compute. -/
import Derived.Test.YtkpgggfibljflaaGreatDoorgQS09
import Derived.Lib.SplitLaws
import Derived.Lib.ItoaNum
import Derived.Lib.AtoiAll
set_option linter.all false
namespace Go.Proofs.YtkpgggfibljflaaGreatDoor
open Go
def Fl (c:UInt8):List UInt8→List (List UInt8)
 | []=>[[]]
 | b::l=>bif b == c then []::Fl c l else match Fl c l with
  | []=>[[b]]
  | p::r=>(b::p)::r
theorem N9 (c:UInt8):∀ l,Fl c l≠[]
 | []=>by simp [Fl]
 | b::l=>by
  unfold Fl
  cases b == c
  · simp only [Zad]; split <;> simp
  · simp
theorem TP {b c:UInt8} (l:List UInt8) (h:b≠c):Lib.index (b::l) [c]=if Lib.index l [c] == -1 then -1 else Lib.index l [c]+1:=by
 have hp:([c]:List UInt8).isPrefixOf (b::l)=false:=by simp [List.isPrefixOf,Ne.symm h]
 rw [Lib.index,hp]; simp
theorem QP (c:UInt8):∀ (l:List UInt8),Lib.splitK [c] 0 (l.count c) l=Fl c l
 | []=>by simp [Lib.splitK,Fl]
 | b::l=>by
  have ih:=QP c l
  by_cases h:b=c
  · subst h
    have hix:Lib.index (b::l) [b]=0:=by rw [Lib.index]; simp [List.isPrefixOf]
    have hc:(b::l).count b=l.count b+1:=by simp
    rw [hc]
    unfold Lib.splitK Fl
    simp only [hix,beq_self_eq_true,Zac]
    have:((0:Int) == -1)=false:=by decide
    simp only [this]
    simp [ih]
  · have hc:(b::l).count c=l.count c:=List.count_cons_of_ne (by simpa using h)
    rw [hc]
    have hix:=TP l h
    have hbc:(b == c)=false:=by simpa using h
    unfold Fl
    rw [hbc,Zad]
    cases hk:l.count c with
    | zero =>
     rw [hk] at ih
     rw [← ih]
     unfold Lib.splitK
     rfl
    | succ k =>
     rw [hk] at ih
     unfold Lib.splitK at ih ⊢
     by_cases hm:Lib.index l [c]=-1
     · have:=Lib.count_one c l
       rw [Lib.count_miss hm,hk] at this
       cases this
     · have hge:=Lib.index_ge l [c]
       obtain⟨j,hj⟩:∃ j:Nat,Lib.index l [c]=j:=⟨(Lib.index l [c]).toNat,by omega⟩
       have h1:((j:Int) == -1)=false:=by simp
       have h2:(((j:Int)+1) == -1)=false:=by simp; omega
       rw [hix,hj,h1]
       simp only [h2,Zaz,if_false]
       rw [hj,h1] at ih
       simp only [Zaz,if_false] at ih
       rw [← ih]
       have e:((j:Int)+1).toNat=j+1:=by omega
       have e2:((j:Int)).toNat=j:=by omega
       simp [e,e2]
def Ku (l:List UInt8):ByteArray:=⟨l.toArray⟩
theorem E8 (s:ByteArray):Ku s.data.toList=s:=by cases s; rfl
def DC (s:ByteArray):List ByteArray:=(Fl 32 s.data.toList).map Ku
theorem Z5 (s:ByteArray):Lib.splitB ⟨#[32]⟩ 0 (Lib.countB s ⟨#[32]⟩) s=DC s:=by
 have h:=Lib.splitB_data ⟨#[32]⟩ 0 (Lib.countB s ⟨#[32]⟩) s
 have hc:Lib.countB s ⟨#[32]⟩=s.data.toList.count 32:=Lib.count_one 32 _
 rw [hc] at h ⊢
 have h2:Lib.splitK (⟨#[32]⟩:ByteArray).data.toList 0 (s.data.toList.count 32) s.data.toList=Fl 32 s.data.toList:=QP 32 _
 rw [h2] at h
 unfold DC
 rw [← h,List.map_map]
 have:(Ku ∘ fun x:ByteArray=>x.data.toList)=id:=by funext x; exact E8 x
 rw [this,List.map_id]
def TQ:Nat→Nat→List UInt8
 | 0,_=>[]
 | k+1,u=>bif Nat.blt u 10 then [UInt8.ofNat (48+u)] else TQ k (u / 10)++[UInt8.ofNat (48+u % 10)]
theorem TR:∀ (k u:Nat),u<10 ^ k→0<k→TQ k u=Lib.decDigits u
 | 0,_,_,h=>absurd h (Nat.lt_irrefl 0)
 | k+1,u,h,_=>by
  unfold TQ
  rw [Lib.decDigits]
  by_cases hu:u<10
  · rw [dif_pos hu,show Nat.blt u 10=true from Za1 hu,Zac]
  · have hb:Nat.blt u 10=false:=by
     cases hb:Nat.blt u 10 with
     | false=>rfl
     | true=>exact absurd (Zaf hb) hu
    rw [dif_neg hu,hb,Zad]
    have hk:0<k:=by
     rcases ZaW k with rfl | hk
     · simp at h; omega
     · exact hk
    rw [TR k (u / 10) (by rw [Nat.pow_succ] at h; omega) hk]
def Ou (n:Int):List UInt8:=match n with
 | .ofNat u=>TQ 20 u
 | .negSucc u=>45::TQ 20 (u+1)
def BK (n:Int):ByteArray:=Ku (Ou n)
theorem MA {n:Int} (h0 : -9223372036854775808≤n) (h1:n≤9223372036854775807):Ou n=Lib.itoa n:=by
 unfold Ou Lib.itoa
 cases n with
 | ofNat u =>
  have : ¬ (Int.ofNat u<0):=by simp
  rw [if_neg this]
  exact TR 20 u (by simp at h1; omega) (by decide)
 | negSucc u =>
  have:Int.negSucc u<0:=Int.negSucc_lt_zero u
  rw [if_pos this]
  have e:(Int.negSucc u).natAbs=u+1:=rfl
  rw [e]
  have hh:u+1≤9223372036854775808:=by omega
  show 45::TQ 20 (u+1)=_
  rw [TR 20 (u+1) (by omega) (by decide)]
open Go Go.RowKit Go.Proofs
open Rep (rep)
section
variable {Ty:Nat→Type} [rT:∀ k,Rep (Ty k)] [RFs] [UM Ty] [UML Ty] {P:Program} [UV Ty] [UL Ty]
theorem HY [UMP Ty P] {f:FuncId} {D:List (Nat×C)} {kp:Nat} {E:List Wo} {Fn:C.Ds Ty (A9 D)→Option (YT Ty E)} (hlt:Nat.blt f An=true)
  (H:∀ (x:C.Ds Ty (A9 D))(y:YT Ty E),Fn x=some y→∀ (F:Fr)(h:Ad)(g:GE)(w:World)(vals:List Value)(R:Ending→World→Prop),Ag F h g (AL.get (Bp D x).s) w→HG (2*Au) (AL.get (Bp D x).s)→V.dens g h (Zby (A9 D) x ⟨0,0,[]⟩).1 vals →
   (∀ (F3:Fr)(h2:Ad)(g2:GE)(w3:World)(st:St Ty)(p:Bool)(rv:List (V Ty))(rus:List Value),st.m=[]→FD F F3 [] []→Ad.le h h2→(∀ i,i<2*Au→g2 i=g i)→2*Au≤st.nx→Ag F3 h2 g2 (AL.get st.s) w3→HG st.nx (AL.get st.s)→DS kp p rv st E=some y→V.dens g2 h2 rv rus→V.oksB (Cl st.nx) rv=true→R (NW p (Ls rus)) w3) →
   Calls P f vals.toArray w R):AX P f (ET D kp E Fn):=by
 intro args k s r hr F h g w vals hm hin hargs hden
 unfold ET at hr
 split at hr
 · rename_i x ρ vs' s' n ht
   cases hl:Nat.beq (AZ ρ.p) kp with
   | false=>rw [hl] at hr; cases hr
   | true =>
    rw [hl,Zac,Tr.runK_ask] at hr
    have hl:ρ.p.length=kp:=by rw [← A5]; exact Zab hl
    obtain⟨y,hy,hr⟩:=Zae.1 hr
    obtain⟨h1,g1,T⟩:=CH ht hm hin hargs hden
    obtain⟨X,hX,back⟩:=T.pre.mem.lendC T.pre.is_ T.nodup T.lp T.lr T.lt T.cells
    refine .of hlt (H x y hy ⟨F.w,F.h,X⟩ h1 (fun i=>g1 (HH ρ.p ρ.r i)) w vals (HW F h g k r) hX T.ins T.denc ?_)
    · intro F3 h2 g2 w3 st p rv rus hsm hf3 q1 q2 q3 hm3 his hty hrd hro
      have q4:RS 0 F3 h2 g2 st.nx st.m st.s #[] w3:=⟨rfl,(by rw [hsm]; intro k v hv; cases hv),hm3,(by rw [hsm]; intro k v hv; cases hv),his⟩
      refine Hv (K:=fun e a=>(Q7 ρ s' n e a).runK some=some r) (fun e a hp hx ha=>?_) hty (Ym (fun e a h=>h) hr)
      have lp:=T.lp
      obtain⟨h3,gc,r1,r2,r3,r4,r5,r6⟩:=Hu hx q4 (by omega) hrd hro
      unfold Q7 at ha
      simp only at ha
      generalize hmm:(Zby e.all a ⟨0,0,[]⟩).2=m at ha
      rw [GT,A5,A5] at ha
      generalize hvv:(Zby e.all a ⟨0,0,[]⟩).1.drop (e.ps.length+e.sl.length)=vc at ha r5 r6
      cases hbb:((O4 vc).okB (EF m.np m.nr) && My (EF m.np m.nr) m.s && Nat.ble (AZ ρ.p) m.np && Nat.ble m.np Au) with
      | false=>rw [hbb] at ha; cases ha
      | true =>
       rw [hbb,Zac] at ha
       cases ha
       obtain⟨hbb,b5⟩:=Ao hbb
       obtain⟨hbb,b4⟩:=Ao hbb
       obtain⟨b2,b3⟩:=Ao hbb
       have b4:=Zaf b4
       have b5:=Zaf b5
       rw [A5] at b4
       have hmem:Ag F3 h3 gc (AL.get m.s) w3:=by rw [← hmm]; exact r4.mem
       obtain⟨F4,hf4,p1,p2,p3,p4⟩:=back (np:=m.np) (nr:=m.nr) hf3 hmem (Ad.le_trans q1 r1) (fun j hj=>by rw [r2 j (by omega),q2 j (by omega)]; show g1 (HH ρ.p ρ.r j)=_; rw [FL (by omega)]) (HX b3) b4 b5
       have hnn:=T.pre.n
       have hgg:∀ i,EF m.np m.nr i=true→JJ g1 gc ρ.p.length n m.np (Ed ρ.p ρ.p.length n m.np i)=gc i:=fun i hi=>(p4 i hi).1
       rw [A5]
       have hpp:e.k.isP true=p:=by cases hek:e.k <;> rw [hek] at hp <;> cases p <;> first | rfl | cases hp
       refine⟨h3,JJ g1 gc ρ.p.length n m.np,Ls rus,Ad.le_trans T.pre.le (Ad.le_trans q1 r1),fun i hi=>?_,p1.back hf4,p2,?_,V.okB_ren (fun i hi=>(p4 i hi).2) _ b2,V.den_ren hgg _ _ b2 (Q8 r5),by rw [hpp]⟩
       · have:=Am.1 hi
         rw [p3 i (by omega)]; exact T.pre.g i hi
       · show k≤n+_+_; omega
 · cases hr
theorem FZ [UMP Ty P] {f:FuncId} {fn:Func} {c:Code} {D:List (Nat×C)} {kp:Nat} {E:List Wo} {Fn:C.Ds Ty (A9 D)→Option (YT Ty E)} (hf:P.funcs[f]? = some fn) (hb:fn.body=some c) (hkey:Lr 0 D=true) (hn:D.length≤fn.ntmps) (hlt:Nat.blt f An=true)
  (H:∀ (x:C.Ds Ty (A9 D))(y:YT Ty E),Fn x=some y→∀ (F:Fr)(h:Ad)(g:GE)(t:Array Value)(w:World)(R:Ending→World→Prop),RS fn.ntmps F h g (2*Au) (Bp D x).m (Bp D x).s t w →
   (∀ (F3:Fr)(h2:Ad)(g2:GE)(w3:World)(st:St Ty)(p:Bool)(rv:List (V Ty))(rus:List Value),st.m=[]→FD F F3 [] []→Ad.le h h2→(∀ i,i<2*Au→g2 i=g i)→2*Au≤st.nx→Ag F3 h2 g2 (AL.get st.s) w3→HG st.nx (AL.get st.s)→DS kp p rv st E=some y→V.dens g2 h2 rv rus→V.oksB (Cl st.nx) rv=true→R (NW p (Ls rus)) w3) →
   c.wp P (bodyPostM Fence.wide 0 P fn R) ⟨t,[]⟩ w):AX P f (ET D kp E Fn):=by
 intro args k s r hr F h g w vals hm hin hargs hden
 unfold ET at hr
 split at hr
 · rename_i x ρ vs' s' n ht
   cases hl:Nat.beq (AZ ρ.p) kp with
   | false=>rw [hl] at hr; cases hr
   | true =>
    rw [hl,Zac,Tr.runK_ask] at hr
    have hl:ρ.p.length=kp:=by rw [← A5]; exact Zab hl
    obtain⟨y,hy,hr⟩:=Zae.1 hr
    obtain⟨h1,g1,T⟩:=CH ht hm hin hargs hden
    obtain⟨X,hX,back⟩:=T.pre.mem.lendC T.pre.is_ T.nodup T.lp T.lr T.lt T.cells
    have hlen:=V.dens_len hden
    have hlenc:(Zby (A9 D) x ⟨0,0,[]⟩).1.length=D.length:=by rw [N3,Q9]
    have hvl:vals.length=D.length:=by rw [V.dens_len T.denc,hlenc]
    refine .of hlt (callsIn_wide.1 (callsIn_of_wp_marks (n:=0) hf hb trivial (wpIn_wide.2 ?_)))
    have hget:∀ i u,vals[i]? = some u→(vals.toArray++Array.replicate (fn.ntmps-vals.toArray.size) Go.undef)[i]? = some u:=fun i u hu=>by
     have hlt:i<vals.length:=(Zaq.1 hu).1
     rw [Zbn (by simpa using hlt)]
     simpa using hu
    refine H x y hy ⟨F.w,F.h,X⟩ h1 (fun i=>g1 (HH ρ.p ρ.r i)) _ w (HW F h g k r) ⟨?_,?_,hX,FN T.okc,T.ins⟩ ?_
    · simp only [Array.size_append,Zbg,Array.size_replicate]; omega
    · exact FM (Lt hget hkey hvl fun j u hu=>by rwa [Zar]) T.denc
    · intro F3 h2 g2 w3 st p rv rus hsm hf3 q1 q2 q3 hm3 his hty hrd hro
      have q4:RS 0 F3 h2 g2 st.nx st.m st.s #[] w3:=⟨rfl,(by rw [hsm]; intro k v hv; cases hv),hm3,(by rw [hsm]; intro k v hv; cases hv),his⟩
      refine Hv (K:=fun e a=>(Q7 ρ s' n e a).runK some=some r) (fun e a hp hx ha=>?_) hty (Ym (fun e a h=>h) hr)
      have lp:=T.lp
      obtain⟨h3,gc,r1,r2,r3,r4,r5,r6⟩:=Hu hx q4 (by omega) hrd hro
      unfold Q7 at ha
      simp only at ha
      generalize hmm:(Zby e.all a ⟨0,0,[]⟩).2=m at ha
      rw [GT,A5,A5] at ha
      generalize hvv:(Zby e.all a ⟨0,0,[]⟩).1.drop (e.ps.length+e.sl.length)=vc at ha r5 r6
      cases hbb:((O4 vc).okB (EF m.np m.nr) && My (EF m.np m.nr) m.s && Nat.ble (AZ ρ.p) m.np && Nat.ble m.np Au) with
      | false=>rw [hbb] at ha; cases ha
      | true =>
       rw [hbb,Zac] at ha
       cases ha
       obtain⟨hbb,b5⟩:=Ao hbb
       obtain⟨hbb,b4⟩:=Ao hbb
       obtain⟨b2,b3⟩:=Ao hbb
       have b4:=Zaf b4
       have b5:=Zaf b5
       rw [A5] at b4
       have hmem:Ag F3 h3 gc (AL.get m.s) w3:=by rw [← hmm]; exact r4.mem
       obtain⟨F4,hf4,p1,p2,p3,p4⟩:=back (np:=m.np) (nr:=m.nr) hf3 hmem (Ad.le_trans q1 r1) (fun j hj=>by rw [r2 j (by omega),q2 j (by omega)]; show g1 (HH ρ.p ρ.r j)=_; rw [FL (by omega)]) (HX b3) b4 b5
       have hnn:=T.pre.n
       have hgg:∀ i,EF m.np m.nr i=true→JJ g1 gc ρ.p.length n m.np (Ed ρ.p ρ.p.length n m.np i)=gc i:=fun i hi=>(p4 i hi).1
       rw [A5]
       have hpp:e.k.isP true=p:=by cases hek:e.k <;> rw [hek] at hp <;> cases p <;> first | rfl | cases hp
       refine⟨h3,JJ g1 gc ρ.p.length n m.np,Ls rus,Ad.le_trans T.pre.le (Ad.le_trans q1 r1),fun i hi=>?_,p1.back hf4,p2,?_,V.okB_ren (fun i hi=>(p4 i hi).2) _ b2,V.den_ren hgg _ _ b2 (Q8 r5),by rw [hpp]⟩
       · have:=Am.1 hi
         rw [p3 i (by omega)]; exact T.pre.g i hi
       · show k≤n+_+_; omega
 · cases hr
end
section
variable {Ty:Nat→Type} [rT:∀ k,Rep (Ty k)] [RFs] [UM Ty] [UML Ty] {P:Program}
theorem DI {F:Fr} {h:Ad} {g:GE} {M:Mo Ty} {fn:Func} {t:Array Value} {R:Ending→World→Prop} {u:FrameMode} {rest:List Deferred} (hu:u≠.run) (hend:∀ F2 w2,FD F F2 [] []→Ag F2 h g M w2→LeavesInM Fence.wide 0 P fn t R rest u w2) :
  ∀ (bs:List Nat)(F':Fr)(w':World),FD F F' [] []→Ag F' h g M w'→bs.Nodup→(∀ b∈bs,F.X b=none∧F'.X b=some (.deferred (some [])))→LeavesInM Fence.wide 0 P fn t R (bs.map Ve++rest) u w'
 | [],F',w',hf,hm,_,_=>hend F' w' hf hm
 | b::bs,F',w',hf,hm,hn,hx=>by
  obtain⟨h0,hb⟩:=hx b (by simp)
  obtain⟨n1,n2⟩:=Zbi.1 hn
  have hlt:=(Zag.1 (hm.ext b _ hb).2.1).1
  refine⟨hu,.inl ⟨b,_,rfl,run_takeDeferred (hm.ext b _ hb).2.1,?_⟩⟩
  refine DI hu hend bs (F'.put b (some (.deferred none))) _ ⟨hf.w,hf.h,fun c x hc=>?_,[],rfl,Zbt,by simp⟩ (hm.setX hb (Gt w' b _) (World.putObj_heap_same hlt)) n2 fun c hc=>?_
  · show(if c=b then _ else F'.X c)=some x
    rw [if_neg (fun hcb=>by rw [hcb,h0] at hc; cases hc)]
    exact hf.X c x hc
  · have hcb:c≠b:=fun hcb=>n1 (hcb▸hc)
    obtain⟨q1,q2⟩:=hx c (by simp [hc])
    refine⟨q1,?_⟩
    show(if c=b then _ else F'.X c)=_
    rw [if_neg hcb]; exact q2
theorem FD.nil {F F':Fr} {d d':List Deferred} (h:FD F F' d d'):FD F F' [] []:=⟨h.w,h.h,h.X,[],rfl,Zbt,by simp⟩
end
theorem H9 (w:World) (p:Addr) (v:Value):w.grownBy (w.setCell p v) (some p.block) :=
 ⟨rfl,rfl,rfl,by simp [World.setCell],fun k _ hk=>by
  unfold World.setCell
  simp only [Zbb]
  rw [if_neg (fun hh=>hk (by rw [hh]))]⟩
theorem TS {w:World} {b:Nat} {u v:Value} {T:TypeId} (h:w.heap[b]? = some (.cells #[u] T (0,0))):(w.setCell ⟨b,0,none⟩ v).heap[b]? = some (.cells #[v] T (0,0)):=by
 unfold World.setCell
 simp [Zbb,h]
def QQ:Value→Bool
 | .string _=>true
 | _=>false
def SD (h h':Ad):Prop:=∀ b o v,h b o=some v→QQ v=false→h' b o=some v
def Jm (T:Type) [Rep T]:Prop:=∀ (h h':Ad)(x:T)(cs:List Value),SD h h'→rep h x cs→rep h' x cs∧∀ v∈cs,QQ v=false
theorem Jm.int:Jm Int:=fun h h' x cs _ hr=>by
 have:cs=[.int .i64 x]:=hr
 subst this
 exact⟨rfl,by simp [QQ]⟩
theorem Jm.ik {k:IntKind}:Jm (IK k):=fun h h' x cs _ hr=>by
 have:cs=[.int k x.n]:=hr
 subst this
 exact⟨rfl,by simp [QQ]⟩
theorem Jm.pair {α β:Type} [Rep α] [Rep β] (ha:Jm α) (hb:Jm β):Jm (α×β):=fun h h' x cs hk hr=>by
 obtain⟨c1,c2,e,h1,h2⟩:=hr
 obtain⟨a1,a2⟩:=ha h h' _ _ hk h1
 obtain⟨b1,b2⟩:=hb h h' _ _ hk h2
 refine⟨⟨c1,c2,e,a1,b1⟩,fun v hv=>?_⟩
 rw [e] at hv
 rcases Zap.1 hv with hv | hv
 · exact a2 v hv
 · exact b2 v hv
theorem Jm.cells {α:Type} [Rep α] (ha:Jm α) {h h':Ad} (hk:SD h h'):∀ {xs:List α} {vs:List Value},Ar h xs vs→Ar h' xs vs∧∀ v∈vs,QQ v=false
 | [],vs,hc=>by
  have:vs=[]:=hc
  subst this
  exact⟨rfl,by simp⟩
 | x::r,vs,hc=>by
  obtain⟨c1,c2,e,h1,h2⟩:=hc
  obtain⟨a1,a2⟩:=ha h h' _ _ hk h1
  obtain⟨b1,b2⟩:=Jm.cells ha hk h2
  refine⟨⟨c1,c2,e,a1,b1⟩,fun v hv=>?_⟩
  rw [e] at hv
  rcases Zap.1 hv with hv | hv
  · exact a2 v hv
  · exact b2 v hv
theorem Jm.slice {α:Type} [Rep α] (ha:Jm α) {h h':Ad} (hk:SD h h') {a:Option Addr} {c:Nat} {xs:List α} (hr:F0 h a c xs):F0 h' a c xs:=by
 obtain⟨vs,h1,h2,h3⟩:=hr
 obtain⟨b1,b2⟩:=ha.cells hk h1
 refine⟨vs,b1,fun o x hx=>?_,h3⟩
 obtain⟨ad,e1,e2,e3⟩:=h2 o x hx
 exact⟨ad,e1,e2,hk _ _ _ e3 (b2 x (Za4 hx))⟩
theorem Jm.list {α:Type} [Rep α] (ha:Jm α):Jm (List α):=fun h h' x cs hk hr=>by
 obtain⟨a,c,e,hs⟩:=hr
 subst e
 exact⟨⟨a,c,rfl,ha.slice hk hs⟩,by simp [QQ]⟩
theorem Jm.via {α β:Type} [Rep β] [ra:Rep α] {f:α→β} (hf:∀ (h:Ad)(x:α)(cs:List Value),@rep α ra h x cs↔rep h (f x) cs) (hb:Jm β) : @Jm α ra:=fun h h' x cs hk hr=>by
 obtain⟨a1,a2⟩:=hb h h' (f x) cs hk ((hf h x cs).1 hr)
 exact⟨(hf h' x cs).2 a1,a2⟩
theorem Yr:Jm Ap:=Jm.via (f:=fun x:Ap=>(x.bus,x.number,x.minute,x.kind,x.part,x.sg)) (fun _ _ _=>Iff.rfl) (.pair .int (.pair .int (.pair .int (.pair .ik (.pair .int .int)))))
theorem AbK:Jm Jk:=Jm.via (f:=fun x:Jk=>(x.bus,x.fr)) (fun _ _ _=>Iff.rfl) (.pair .int .int)
theorem AbL:Jm I9:=Jm.via (f:=fun x:I9=>(x.bus,x.fr,x.to_,x.miles)) (fun _ _ _=>Iff.rfl) (.pair .int (.pair .int (.pair .int .int)))
theorem SE:Jm Ab:=Jm.via (f:=fun x:Ab=>(x.machine,x.seq,x.minute,x.kind,x.a,x.b)) (fun _ _ _=>Iff.rfl) (.pair .int (.pair .int (.pair .int (.pair .ik (.pair .int .int)))))
theorem AeV:Jm Rg:=Jm.via (f:=fun x:Rg=>(x.lo,x.hi)) (fun _ _ _=>Iff.rfl) (.pair .int .int)
theorem Ys:Jm AH:=Jm.via (f:=fun x:AH=>(x.day,x.on,x.off,x.route)) (fun _ _ _=>Iff.rfl) (.pair .int (.pair .int (.pair AeV .int)))
theorem SF:Jm AA:=Jm.via (f:=fun x:AA=>(x.knows,x.leave,x.wish,x.off,x.row,x.used)) (fun _ _ _=>Iff.rfl) (.pair (.list .int) (.pair (.list .int) (.pair (.list .int) (.pair .int (.pair .int .int)))))
def Aff (k:Nat):Bool:=k == 180 || (k == 60 || (k == 62 || (k == 93 || (k == 184 || (k == 186 || (k == 3 || (k == 37 || (k == 65 || (k == 124 || (k == 125 || (k == 90 || (k == 191 || (k == 192)))))))))))))
theorem Aep {k:Nat} (h:Aff k=true):Jm (Ty k):=by
 have:k=180∨k=60∨k=62∨k=93∨k=184∨k=186∨k=3∨k=37∨k=65∨k=124∨k=125∨k=90∨k=191∨k=192:=by simpa [Aff] using h
 rcases this with rfl | rfl | rfl | rfl | rfl | rfl | rfl | rfl | rfl | rfl | rfl | rfl | rfl | rfl
 · exact Yr
 · exact AbK
 · exact AbL
 · exact SE
 · exact Ys
 · exact SF
 · exact Jm.int
 · exact Jm.int
 · exact Yr
 · exact AbK
 · exact AbL
 · exact SE
 · exact Ys
 · exact SF
mutual
/-- a value that needs no string's cell; pointers to what is new from k on -/
def AbM (k:Nat):V Ty→Bool
 | .int _ _ | .bool _ | .str _ | .nilp | .nils | .nilm | .nilf | .nili | .undef=>true
 | .ptr i _=>Nat.ble k i
 | .lst e _=>Aff e
 | .agg cs | .tup cs=>Ze5 k cs
 | .ifc _ x=>AbM k x
 | _=>false
def Ze5 (k:Nat):List (V Ty)→Bool
 | []=>true
 | c::cs=>AbM k c && Ze5 k cs
end
mutual
theorem TU {k:Nat} {g g':GE} {h h':Ad} (hk:SD h h') (hg:∀ i,k≤i→g' i=g i):∀ {v:V Ty} {u:Value},AbM k v=true→v.den g h u→v.den g' h' u
 | .int _ _,u,_,hv | .bool _,u,_,hv | .str _,u,_,hv | .nilp,u,_,hv | .nils,u,_,hv | .nilm,u,_,hv | .nilf,u,_,hv | .nili,u,_,hv | .undef,u,_,hv=>hv
 | .ptr i off,u,hp,hv=>by
  unfold AbM at hp
  unfold V.den at hv ⊢
  rw [hg i (Zaf hp)]; exact hv
 | .lst e l,u,hp,hv=>by
  unfold AbM at hp
  unfold V.den at hv ⊢
  obtain⟨a,c,e1,hr⟩:=hv
  exact⟨a,c,e1,(Aep hp).slice hk hr⟩
 | .agg cs,u,hp,hv=>by
  unfold AbM at hp
  unfold V.den at hv ⊢
  obtain⟨us,e,h1⟩:=hv
  exact⟨us,e,Zd0 hk hg hp h1⟩
 | .tup cs,u,hp,hv=>by
  unfold AbM at hp
  unfold V.den at hv ⊢
  obtain⟨us,e,h1⟩:=hv
  exact⟨us,e,Zd0 hk hg hp h1⟩
 | .ifc t x,u,hp,hv=>by
  unfold AbM at hp
  unfold V.den at hv ⊢
  obtain⟨us,e,h1⟩:=hv
  exact⟨us,e,TU hk hg hp h1⟩
 | .ept _ _,_,hp,_ | .rpt _ _ _ _,_,hp,_ | .hdr _ _,_,hp,_ | .mp _,_,hp,_ | .bsl _ _,_,hp,_ | .fn _ _ _,_,hp,_ | .arr _ _,_,hp,_=>by simp [AbM] at hp
theorem Zd0 {k:Nat} {g g':GE} {h h':Ad} (hk:SD h h') (hg:∀ i,k≤i→g' i=g i):∀ {vs:List (V Ty)} {us:List Value},Ze5 k vs=true→V.dens g h vs us→V.dens g' h' vs us
 | [],us,_,hv=>hv
 | c::cs,us,hp,hv=>by
  unfold Ze5 at hp
  obtain⟨p1,p2⟩:=Ao hp
  unfold V.dens at hv ⊢
  obtain⟨u,us',e,h1,h2⟩:=hv
  exact⟨u,us',e,TU hk hg p1 h1,Zd0 hk hg p2 h2⟩
end
def Aex (k:Nat):Az Ty→Bool
 | []=>true
 | (i,.blk _ vs)::r=>Nat.ble k i && Ze5 k vs && Aex k r
 | _=>false
theorem TV {k:Nat}:∀ {s:Az Ty} {i:Nat} {c:A7 Ty},Aex k s=true→AL.get s i=some c→k≤i∧∃ tb vs,c=.blk tb vs∧Ze5 k vs=true
 | [],_,_,_,h=>by cases h
 | (j,.blk tb vs)::r,i,c,hs,h=>by
  unfold Aex at hs
  obtain⟨p1,p2⟩:=Ao hs
  obtain⟨p3,p4⟩:=Ao p1
  have h2:(bif Nat.beq j i then some (.blk tb vs) else AL.get r i)=some c:=h
  cases hb:Nat.beq j i with
  | true =>
   rw [hb] at h2
   cases h2
   have:=Zab hb
   subst this
   exact⟨Zaf p3,tb,vs,rfl,p4⟩
  | false =>
   rw [hb] at h2
   exact TV p2 h2
 | (_,.row _ _)::_,_,_,hs,_ | (_,.arr _ _)::_,_,_,hs,_ | (_,.mp _ _ _)::_,_,_,hs,_ | (_,.lp _ _ _ _ _)::_,_,_,hs,_=>by simp [Aex] at hs
def AbN (l:FQ Ty):FQ Ty:=fun args k s=>match args with
 | [.hdr k' i]=>bif Nat.beq k' 9 then(match AL.get s i with
     | some (.row k2 x)=>if h:k2=9 then(l [.lst 9 (h▸x)] k []).bind fun r=>bif Aex k r.s && AbM k r.v then .ret ⟨r.p,r.v,r.s++s,r.n⟩ else .fail else .fail
     | _=>.fail) else .fail
 | _=>l args k s
theorem Adf {g:GE} {h:Ad} {x:V Ty} {vals:List Value} (hd:V.dens g h [x] vals):∃ u,vals=[u]∧x.den g h u:=by
 unfold V.dens at hd
 obtain⟨u,us,rfl,h1,h2⟩:=hd
 unfold V.dens at h2
 subst h2
 exact⟨u,rfl,h1⟩
theorem Yt {g:GE} {h:Ad} {x:V Ty} {v:Value} (hd:x.den g h v):V.dens g h [x] [v]:=by unfold V.dens V.dens; exact⟨_,[],rfl,hd,rfl⟩
theorem Yu {h:Ad}:∀ {xs:List ByteArray} {us:List Value},Ar h xs us→∀ u∈us,∃ s,u=.string s
 | [],us,hc=>by
  have:us=[]:=hc
  subst this
  simp
 | x::r,us,hc=>by
  obtain⟨c1,c2,e,h1,h2⟩:=hc
  have:c1=[.string x]:=h1
  subst this e
  intro u hu
  rcases Zam.1 hu with rfl | hu
  · exact⟨x,rfl⟩
  · exact Yu h2 u hu
theorem get_app {α:Type}:∀ (r s:List (Nat×α))(i:Nat),AL.get (r++s) i=(AL.get r i).or (AL.get s i)
 | [],_,_=>rfl
 | (j,c)::r,s,i=>by
  show(bif Nat.beq j i then some c else AL.get (r++s) i)=(bif Nat.beq j i then some c else AL.get r i).or (AL.get s i)
  cases Nat.beq j i
  · exact get_app r s i
  · rfl
theorem AbO {P:Program} [UMP Ty P] {f:FuncId} {l:FQ Ty} (hf:f≠An) (hl:AX P f l):AX P f (AbN l):=by
 intro args k s r hr F h g w vals hm hin hargs hden
 unfold AbN at hr
 split at hr
 · rename_i k' i
   cases hb:Nat.beq k' 9 with
   | false=>rw [hb] at hr; cases hr
   | true =>
   have hk':=Zab hb
   subst hk'
   rw [hb,Zac] at hr
   split at hr
   · rename_i k2 x hget
     split at hr
     · rename_i hk2
       subst hk2
       obtain⟨r1,e1,e2⟩:=Tr.run_bind hr
       cases hn:(Aex k r1.s && AbM k r1.v) with
       | false=>rw [hn] at e2; cases e2
       | true =>
       rw [hn,Zac] at e2
       cases e2
       obtain⟨n1,n2⟩:=Ao hn
       -- the row settles
       have hi:=hm.cell i _ hget
       obtain⟨hlen,hrow⟩:=hi
       obtain⟨u0,rfl,hu0⟩:=Adf hden
       unfold V.den at hu0
       obtain⟨h1,hm1,hstr,hre⟩:∃ h1,Ag ⟨w,h1,Ad0⟩ h1 g (fun _=>none:Mo Ty) w∧(∀ b o v,h1 b o=some v→QQ v=false→h b o=some v)∧V.dens g h1 [.lst 9 x] [u0]:=by
        cases hnl:(g i).nl with
        | true =>
         rw [hnl] at hrow hu0
         simp only [if_true] at hrow hu0
         have hx:x=[]:=List.length_eq_zero_iff.1 (by omega)
         subst hx
         refine⟨h,Ag.begin h w g hm.has hm.gl,fun _ _ _ q _=>q,Yt ?_⟩
         unfold V.den
         exact⟨none,0,hu0,F0.nil⟩
        | false =>
         rw [hnl] at hrow hu0
         simp only [Zaz,if_false] at hrow hu0
         obtain⟨us,sp,hb,hcells,hlen2,hnc,hmax⟩:=hrow
         obtain⟨o1,o2,o3,o4⟩:=hm.own i _ hget hnl
         have hst:=Yu hcells
         have hle:Ad.le h (fun b o=>if b=(g i).b then us[o]? else h b o):=fun b o v hv=>by
          have hne:b≠(g i).b:=fun hh=>by rw [hh,o4 o] at hv; cases hv
          simp only [hne,if_false]; exact hv
         refine⟨fun b o=>if b=(g i).b then us[o]? else h b o,Ag.begin _ w g ?_ hm.gl,?_,Yt ?_⟩
         · intro b o v hv
           replace hv:(if b=(g i).b then us[o]? else h b o)=some v:=hv
           split at hv
           · rename_i hh
             rw [hh]
             obtain⟨s0,rfl⟩:=hst v (Za4 hv)
             refine⟨o2,G6 ?_ (Dt rfl)⟩
             rw [cell_of_row w _ o _ _ _ hb]
             simp only [Zbs]
             rw [Zau (Zaq.1 hv).1]
             exact hv
           · exact hm.has b o v hv
         · intro b o v hv hns
           replace hv:(if b=(g i).b then us[o]? else h b o)=some v:=hv
           split at hv
           · obtain⟨s0,rfl⟩:=hst v (Za4 hv)
             cases hns
           · exact hv
         · unfold V.den
           refine⟨_,_,by rw [hu0,hlen],us,hcells.mono hle,fun o v hv=>?_,by omega⟩
           exact⟨⟨(g i).b,0,none⟩,rfl,rfl,by simp [hv]⟩
       have hc:=(hl [.lst 9 x] k [] r1 e1 ⟨w,h1,Ad0⟩ h1 g w _ hm1 (fun i c hi=>by cases hi) (by simp [V.oksB,V.okB]) hre)
       refine hc.mono fun en w2 hcr=>?_
       obtain⟨h2,g2,u,q1,q2,q3,q4,q5,q6,q7,q8⟩:=hcr
       have bl:=q3.below
       have hmg:=hm.grow ⟨bl.os,bl.tape,bl.output,bl.size,fun i hi _=>bl.block i hi⟩
       let hN:Ad:=fun b o=>if b<w.heap.size then h b o else h2 b o
       let gN:GE:=fun j=>if j<k then g j else g2 j
       have hNlt:∀ b o,b<w.heap.size→hN b o=h b o:=fun b o hb=>if_pos hb
       have hNge:∀ b o,w.heap.size≤b→hN b o=h2 b o:=fun b o hb=>if_neg (by omega)
       have hgl:∀ j,j<k→gN j=g j:=fun j hj=>if_pos hj
       have hgg:∀ j,k≤j→gN j=g2 j:=fun j hj=>if_neg (by omega)
       have hleN:Ad.le h hN:=fun b o v hv=>by rw [hNlt b o (hm.lt hv)]; exact hv
       have hkeep:SD h2 hN:=fun b o v hv hns=>by
        rcases Za2 b w.heap.size with hb | hb
        · rw [hNlt b o hb]
          rcases q3.old b o v hv with h' | h'
          · exact hstr b o v h' hns
          · exact absurd hb (by have:w.heap.size≤b:=h'; omega)
        · rw [hNge b o hb]; exact hv
       have hX:∀ b,w.heap.size≤b→F.X b=none:=fun b hb=>by
        cases hx:F.X b with
        | none=>rfl
        | some y=>have:=(Zag.1 (hm.ext b y hx).2.1).1; omega
       have hget2:∀ j c,AL.get (r1.s++s) j=some c→(AL.get r1.s j=some c∧k≤j)∨(AL.get s j=some c∧j<k):=fun j c hj=>by
        rw [get_app] at hj
        cases hr1:AL.get r1.s j with
        | some c' =>
         rw [hr1] at hj
         have:c' = c:=by simpa using hj
         subst this
         exact .inl ⟨rfl,(TV n1 hr1).1⟩
        | none =>
         rw [hr1] at hj
         have:AL.get s j=some c:=by simpa using hj
         exact .inr ⟨this,Am.1 (hin j c this).1⟩
       refine⟨hN,gN,u,hleN,fun j hj=>hgl j (Am.1 hj),⟨hmg.below,fun b o v hv=>hleN b o v (hm.le b o v hv),?_,?_,?_,?_,?_,?_,hm.glo⟩,?_,q5,q6,TU hkeep hgg n2 q7,q8⟩
       · intro b o v hv
         rcases Za2 b w.heap.size with hb | hb
         · rw [hNlt b o hb] at hv; exact hm.old b o v hv
         · exact .inr (ZaF hm.size hb)
       · intro b o v hv
         rcases Za2 b w.heap.size with hb | hb
         · rw [hNlt b o hb] at hv; exact hmg.has b o v hv
         · rw [hNge b o hb] at hv; exact q3.has b o v hv
       · intro j c hj
         rcases hget2 j c hj with⟨h',hkj⟩ | ⟨h',hjk⟩
         · obtain⟨_,tb,vs,rfl,hns⟩:=TV n1 h'
           rw [hgg j hkj]
           obtain⟨c0,us,T,c1,c2,c3⟩:=q3.cell j _ h'
           exact⟨c0,us,T,c1,Zd0 hkeep hgg hns c2,c3⟩
         · rw [hgl j hjk]
           exact((hmg.cell j c h').mono hleN).agree (fun l hl=>hgl l (Am.1 hl)) (hin j c h').2
       · intro j c hj hn'
         rcases hget2 j c hj with⟨h',hkj⟩ | ⟨h',hjk⟩
         · rw [hgg j hkj] at hn' ⊢
           obtain⟨c0,c1,c2,c3⟩:=q3.own j c h' hn'
           have c0':w.heap.size≤(g2 j).b:=c0
           exact⟨ZaF hm.size c0,c1,hX _ c0,fun o=>by rw [hNge _ o c0']; exact c3 o⟩
         · rw [hgl j hjk] at hn' ⊢
           obtain⟨c0,c1,c2,c3⟩:=hmg.own j c h' hn'
           exact⟨c0,c1,c2,fun o=>by rw [hNlt _ o (hm.own j c h' hn').2.1]; exact c3 o⟩
       · intro j l c d hj hl hnj hnl heq
         rcases hget2 j c hj with⟨hj',hkj⟩ | ⟨hj',hjk⟩ <;> rcases hget2 l d hl with⟨hl',hkl⟩ | ⟨hl',hlk⟩
         · rw [hgg j hkj] at hnj heq; rw [hgg l hkl] at hnl heq
           exact q3.inj j l c d hj' hl' hnj hnl heq
         · rw [hgg j hkj] at hnj heq; rw [hgl l hlk] at hnl heq
           have c0:w.heap.size≤(g2 j).b:=(q3.own j c hj' hnj).1
           have:=(hm.own l d hl' hnl).2.1
           omega
         · rw [hgl j hjk] at hnj heq; rw [hgg l hkl] at hnl heq
           have c0:w.heap.size≤(g2 l).b:=(q3.own l d hl' hnl).1
           have:=(hm.own j c hj' hnj).2.1
           omega
         · rw [hgl j hjk] at hnj heq; rw [hgl l hlk] at hnl heq
           exact hm.inj j l c d hj' hl' hnj hnl heq
       · intro b x' hx
         obtain⟨c0,c1,c2⟩:=hmg.ext b x' hx
         have hb:=(Zag.1 (hm.ext b x' hx).2.1).1
         exact⟨c0,c1,fun o=>by rw [hNlt b o hb]; exact c2 o⟩
       · intro j c hj
         rcases hget2 j c hj with⟨h',_⟩ | ⟨h',_⟩
         · exact q4 j c h'
         · exact((hin.mono fun i hi=>Am.2 (Zai (Am.1 hi) q5)) j c h')
     · cases hr
   · cases hr
 · exact hl args k s r hr F h g w vals hm hin hargs hden
end Go.Proofs.YtkpgggfibljflaaGreatDoor
namespace Go.Proofs.YtkpgggfibljflaaGreatDoor
open Go Go.RowKit
open Rep (rep)
noncomputable def ZdK (_:Nat):FQ Ty:=fun args n s=>match args with
 | [.ptr i off]=>bif Nat.beq off 0 then(match AL.get s i with
     | some (.blk t [.nilp,x])=>bif Nat.beq t 163 then .ret ⟨false,.tup [],AL.put s i (.blk 163 [.ptr i 0,x]),n⟩ else .fail
     | some (.blk _ [.ptr j o,_])=>bif Nat.beq j i && Nat.beq o 0 then .ret ⟨false,.tup [],s,n⟩ else .fail
     | _=>.fail) else .fail
 | _=>.fail
def KM (l:List (IK .u8)):Option ByteArray:=bif l.all (fun x=>decide (0≤x.n) && decide (x.n<256)) then some (QO l) else none
noncomputable def ZdL (_:Nat):FQ Ty:=fun args n s=>match args with
 | [.ptr i off]=>bif Nat.beq off 0 then(match AL.get s i with
     | some (.blk _ [_,.hdr k j])=>bif Nat.beq k 5 then(match AL.get s j with
      | some (.row k2 l)=>if h:k2=5 then .ask (KM (show List (Ty 5) from h▸l)) fun b=>.ret ⟨false,.str b,[],n⟩ else .fail
      | _=>.fail) else .fail
     | _=>.fail) else .fail
 | _=>.fail
section
variable {Ty:Nat→Type} [UV Ty]
def TW (kp:Nat) (D D2:List (Nat×C)) (E:List Wo) (f:C.Ds Ty (A9 D)→Option (YT Ty E)) (f2:C.Ds Ty (A9 D2)→Option (YT Ty E)) (lf:Lf Ty):Option (YT Ty E):=match lf.e with
 | .normal=>match Lq kp D lf.st with
  | some x=>f x
  | none=>(Lq kp D2 lf.st).bind f2
 | _=>FJ kp E lf
end
section
variable {Ty:Nat→Type} [rT:∀ k,Rep (Ty k)] [RFs] [UM Ty] [UML Ty] [UV Ty] [UL Ty] {P:Program} [UMP Ty P] {N:Nat} {y0:Bool}
theorem NA {F:Fr} {h:Ad} {g:GE} {st:St Ty} {t:Array Value} {w:World} {D:List (Nat×C)} {kp:Nat} {x:C.Ds Ty (A9 D)} (r:RS N F h g st.nx st.m st.s t w) (hn:2*Au≤st.nx) (hkp:kp≤Au) (f1:Lq kp D st=some x):∃ h3 g3,Ad.le h h3∧(∀ i,i<kp→g3 i=g i)∧RS N F h3 g3 (2*Au) (Bp D x).m (Bp D x).s t w:=by
 unfold Lq at f1
 split at f1
 · rename_i vs hvs
   split at f1
   · rename_i x3 ρ rest ht
     obtain⟨vs',s',n'⟩:=rest
     cases hpre:PI kp ρ.p with
     | false=>rw [hpre] at f1; cases f1
     | true =>
      rw [hpre,Zac] at f1
      cases f1
      obtain⟨a1,a2,sus,a3,a4⟩:=Fk r.kn r.im hvs
      obtain⟨h3,g3,T⟩:=CH ht r.mem r.is_ a1 a3
      refine⟨h3,fun i=>g3 (HH ρ.p ρ.r i),T.pre.le,fun i hi=>?_,⟨r.size,?_,T.mem,?_,T.ins⟩⟩
      · show g3 (HH ρ.p ρ.r i)=g i
        rw [T3 hpre T.lp hi,T.pre.g i (Am.2 (by omega))]
      · exact FM a4 T.denc
      · exact FN T.okc
   · cases f1
 · cases f1
theorem Z6 {call call2:Nat→AT Ty} {cuts cuts2:Nat→Ld Ty} {c:Code} {D D2:List (Nat×C)} {kp:Nat} {E:List Wo} {Fn:Nat→C.Ds Ty (A9 D)→Option (YT Ty E)} {F2:Nat→C.Ds Ty (A9 D2)→Option (YT Ty E)} (hP:E5 P) (hmix:P.follows .mixedOrders=true) (hc:∀ n,Cm P (call n)) (hc2:∀ n,Cm P (call2 n))
  (hy0:y0=false→∀ n args k s,(call n An args k s).runK some=none) (hy2:y0=false→∀ n args k s,(call2 n An args k s).runK some=none) (hsc:y0=false→Fg c=true)
  (hcuts:∀ n,∀ z∈Br (cuts n) c,∀ f,cuts n (GO z)=some f→Bm y0 P N f z) (hcuts2:∀ n,∀ z∈Br (cuts2 n) c,∀ f,cuts2 n (GO z)=some f→Bm y0 P N f z) (hkp:kp≤Au) (h0:∀ x,Fn 0 x=none) (h02:∀ x,F2 0 x=none)
  (hr:∀ n x,(Cv P N (call n) (cuts n) c (Bp D x)).runK (TW kp D D2 E (Fn n) (F2 n))=Fn (n+1) x) (hr2:∀ n x,(Cv P N (call2 n) (cuts2 n) c (Bp D2 x)).runK (EE kp D2 E (F2 n))=F2 (n+1) x) {n:Nat} {x:C.Ds Ty (A9 D)} {y:YT Ty E} (hy:Fn n x=some y):VH y0 P N (.loop c) D kp E x y:=by
 intro F h g t w Q d hs hK
 refine .loop (fun m a w'=>∃ F' d' h' g' t',a=⟨t',d'⟩∧FD F F' d d'∧Ad.le h h'∧(∀ i,i<kp→g' i=g i)∧((∃ x',RS N F' h' g' (2*Au) (Bp D x').m (Bp D x').s t' w'∧Fn m x' = some y)∨∃ x',RS N F' h' g' (2*Au) (Bp D2 x').m (Bp D2 x').s t' w'∧F2 m x' = some y)) n ⟨F,d,h,g,t,rfl,FD.refl F d,Ad.le_refl _,fun _ _=>rfl,.inl ⟨x,hs,hy⟩⟩ ?_
 rintro m a w1 ⟨F1,d1,h1,g1,t1,rfl,q0,q1,q2,q3⟩
 have fin:∀ {F2':Fr} {d2:List Deferred} {h2:Ad} {g2:GE} {t2:Array Value} {w2:World} {lf:Lf Ty},FD F1 F2' d1 d2→Ad.le h1 h2→(∀ i,i<2*Au→g2 i=g1 i)→2*Au≤lf.st.nx→RS N F2' h2 g2 lf.st.nx lf.st.m lf.st.s t2 w2→FJ kp E lf=some y→Zv Q g2 h2 lf.st.nx ⟨t2,d2⟩ w2 lf.e:=fun r0 r1 r2 r3 r4 hl =>
  Gy r4 (by omega) (Ad.le_refl _) (fun _ _=>rfl) hl (YK.imp (fun l hl=>hl.of (q0.trans r0) (Ad.le_trans q1 r1) (fun i hi=>by rw [r2 i (by omega),q2 i hi]) (Zal _)) hK)
 rcases q3 with⟨x1,q3,q4⟩ | ⟨x1,q3,q4⟩
 · cases m with
   | zero=>rw [h0] at q4; cases q4
   | succ m =>
    rw [← hr m x1,Tr.runK_some] at q4
    obtain⟨lf,e1,e2⟩:=Zae.1 q4
    refine Bg hP hmix (hc m) (fun hh=>hy0 hh m) c hsc (hcuts m) (Bp D x1) lf e1 F1 h1 g1 t1 w1 _ d1 q3 ?_
    intro F2' d2 h2 g2 t2 w2 r0 r1 r2 r3 r4
    have hnx:(Bp D x1).nx=2*Au:=rfl
    rw [hnx] at r2 r3
    have out:=fin r0 r1 r2 r3 r4
    unfold TW at e2
    cases he:lf.e with
    | normal =>
     rw [he] at e2
     simp only at e2
     cases hst:Lq kp D lf.st with
     | some x2 =>
      rw [hst] at e2
      obtain⟨h3,g3,s1,s2,s3⟩:=NA r4 r3 hkp hst
      exact⟨m,Zbf _,F2',d2,h3,g3,t2,rfl,q0.trans r0,Ad.le_trans q1 (Ad.le_trans r1 s1),fun i hi=>by rw [s2 i hi,r2 i (by omega),q2 i hi],.inl ⟨x2,s3,e2⟩⟩
     | none =>
      rw [hst] at e2
      obtain⟨x2,f1,f2⟩:=Zae.1 e2
      obtain⟨h3,g3,s1,s2,s3⟩:=NA r4 r3 hkp f1
      exact⟨m,Zbf _,F2',d2,h3,g3,t2,rfl,q0.trans r0,Ad.le_trans q1 (Ad.le_trans r1 s1),fun i hi=>by rw [s2 i hi,r2 i (by omega),q2 i hi],.inr ⟨x2,s3,f2⟩⟩
    | exit i=>rw [he] at e2; have:=out e2; rw [he] at this; exact this
    | ret=>rw [he] at e2; have:=out e2; rw [he] at this; exact this
    | pan v=>rw [he] at e2; have:=out e2; rw [he] at this; exact this
 · cases m with
   | zero=>rw [h02] at q4; cases q4
   | succ m =>
    rw [← hr2 m x1,Tr.runK_some] at q4
    obtain⟨lf,e1,e2⟩:=Zae.1 q4
    refine Bg hP hmix (hc2 m) (fun hh=>hy2 hh m) c hsc (hcuts2 m) (Bp D2 x1) lf e1 F1 h1 g1 t1 w1 _ d1 q3 ?_
    intro F2' d2 h2 g2 t2 w2 r0 r1 r2 r3 r4
    have hnx:(Bp D2 x1).nx=2*Au:=rfl
    rw [hnx] at r2 r3
    have out:=fin r0 r1 r2 r3 r4
    unfold EE at e2
    cases he:lf.e with
    | normal =>
     rw [he] at e2
     simp only at e2
     obtain⟨x2,f1,f2⟩:=Zae.1 e2
     obtain⟨h3,g3,s1,s2,s3⟩:=NA r4 r3 hkp f1
     exact⟨m,Zbf _,F2',d2,h3,g3,t2,rfl,q0.trans r0,Ad.le_trans q1 (Ad.le_trans r1 s1),fun i hi=>by rw [s2 i hi,r2 i (by omega),q2 i hi],.inr ⟨x2,s3,f2⟩⟩
    | exit i=>rw [he] at e2; have:=out e2; rw [he] at this; exact this
    | ret=>rw [he] at e2; have:=out e2; rw [he] at this; exact this
    | pan v=>rw [he] at e2; have:=out e2; rw [he] at this; exact this
end
end Go.Proofs.YtkpgggfibljflaaGreatDoor
