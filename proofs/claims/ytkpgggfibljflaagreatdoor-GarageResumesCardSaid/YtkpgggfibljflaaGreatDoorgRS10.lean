/- What a proof leans on: a machine that steps through code, and what functions compute. -/
import Derived.Test.YtkpgggfibljflaaGreatDoorgRS09
import Derived.Lib.SplitLaws
import Derived.Lib.ItoaNum
import Derived.Lib.AtoiAll
set_option linter.all false
namespace Go.Proofs.YtkpgggfibljflaaGreatDoor
open Go
def Fj (c:UInt8):List UInt8→List (List UInt8)
 | []=>[[]]
 | b::l=>bif b == c then []::Fj c l else match Fj c l with
  | []=>[[b]]
  | p::r=>(b::p)::r
theorem ML (c:UInt8):∀ l,Fj c l≠[]
 | []=>by simp [Fj]
 | b::l=>by
  unfold Fj
  cases b == c
  · simp only [Zad]; split <;> simp
  · simp
theorem Alr {b c:UInt8} (l:List UInt8) (h:b≠c):Lib.index (b::l) [c]=if Lib.index l [c] == -1 then -1 else Lib.index l [c]+1:=by
 have hp:([c]:List UInt8).isPrefixOf (b::l)=false:=by simp [List.isPrefixOf,Ne.symm h]
 rw [Lib.index,hp]; simp
theorem AhP (c:UInt8):∀ (l:List UInt8),Lib.splitK [c] 0 (l.count c) l=Fj c l
 | []=>by simp [Lib.splitK,Fj]
 | b::l=>by
  have ih:=AhP c l
  by_cases h:b=c
  · subst h
    have hix:Lib.index (b::l) [b]=0:=by rw [Lib.index]; simp [List.isPrefixOf]
    have hc:(b::l).count b=l.count b+1:=by simp
    rw [hc]
    unfold Lib.splitK Fj
    simp only [hix,beq_self_eq_true,Zab]
    have:((0:Int) == -1)=false:=by decide
    simp only [this]
    simp [ih]
  · have hc:(b::l).count c=l.count c:=List.count_cons_of_ne (by simpa using h)
    rw [hc]
    have hix:=Alr l h
    have hbc:(b == c)=false:=by simpa using h
    unfold Fj
    rw [hbc,Zad]
    cases hk:l.count c with
    | zero =>
     rw [hk] at ih
     rw [← ih]
     unfold Lib.splitK
     rfl
    | succ k =>
     rw [hk] at ih
     unfold Lib.splitK at ih ⊢
     by_cases hm:Lib.index l [c]=-1
     · have:=Lib.count_one c l
       rw [Lib.count_miss hm,hk] at this
       cases this
     · have hge:=Lib.index_ge l [c]
       obtain⟨j,hj⟩:∃ j:Nat,Lib.index l [c]=j:=⟨(Lib.index l [c]).toNat,by omega⟩
       have h1:((j:Int) == -1)=false:=by simp
       have h2:(((j:Int)+1) == -1)=false:=by simp; omega
       rw [hix,hj,h1]
       simp only [h2,Za0,if_false]
       rw [hj,h1] at ih
       simp only [Za0,if_false] at ih
       rw [← ih]
       have e:((j:Int)+1).toNat=j+1:=by omega
       have e2:((j:Int)).toNat=j:=by omega
       simp [e,e2]
def B7 (l:List UInt8):ByteArray:=⟨l.toArray⟩
theorem Nx (s:ByteArray):B7 s.data.toList=s:=by cases s; rfl
def C8 (s:ByteArray):List ByteArray:=(Fj 32 s.data.toList).map B7
theorem Ar8 (s:ByteArray):Lib.splitB ⟨#[32]⟩ 0 (Lib.countB s ⟨#[32]⟩) s=C8 s:=by
 have h:=Lib.splitB_data ⟨#[32]⟩ 0 (Lib.countB s ⟨#[32]⟩) s
 have hc:Lib.countB s ⟨#[32]⟩=s.data.toList.count 32:=Lib.count_one 32 _
 rw [hc] at h ⊢
 have h2:Lib.splitK (⟨#[32]⟩:ByteArray).data.toList 0 (s.data.toList.count 32) s.data.toList=Fj 32 s.data.toList:=AhP 32 _
 rw [h2] at h
 unfold C8
 rw [← h,List.map_map]
 have:(B7 ∘ fun x:ByteArray=>x.data.toList)=id:=by funext x; exact Nx x
 rw [this,List.map_id]
def Apd:Nat→Nat→List UInt8
 | 0,_=>[]
 | k+1,u=>bif Nat.blt u 10 then [UInt8.ofNat (48+u)] else Apd k (u / 10)++[UInt8.ofNat (48+u % 10)]
theorem AfG:∀ (k u:Nat),u<10 ^ k→0<k→Apd k u=Lib.decDigits u
 | 0,_,_,h=>absurd h (Nat.lt_irrefl 0)
 | k+1,u,h,_=>by
  unfold Apd
  rw [Lib.decDigits]
  by_cases hu:u<10
  · rw [dif_pos hu,show Nat.blt u 10=true from Za7 hu,Zab]
  · have hb:Nat.blt u 10=false:=by
     cases hb:Nat.blt u 10 with
     | false=>rfl
     | true=>exact absurd (Zah hb) hu
    rw [dif_neg hu,hb,Zad]
    have hk:0<k:=by
     rcases Zbj k with rfl | hk
     · simp at h; omega
     · exact hk
    rw [AfG k (u / 10) (by rw [Zbq] at h; omega) hk]
def AhQ (n:Int):List UInt8:=match n with
 | .ofNat u=>Apd 20 u
 | .negSucc u=>45::Apd 20 (u+1)
def Uu (n:Int):ByteArray:=B7 (AhQ n)
theorem Abh {n:Int} (h0 : -9223372036854775808≤n) (h1:n≤9223372036854775807):AhQ n=Lib.itoa n:=by
 unfold AhQ Lib.itoa
 cases n with
 | ofNat u =>
  have : ¬ (Int.ofNat u<0):=by simp
  rw [if_neg this]
  exact AfG 20 u (by simp at h1; omega) (by decide)
 | negSucc u =>
  have:Int.negSucc u<0:=Int.negSucc_lt_zero u
  rw [if_pos this]
  have e:(Int.negSucc u).natAbs=u+1:=rfl
  rw [e]
  have hh:u+1≤9223372036854775808:=by omega
  show 45::Apd 20 (u+1)=_
  rw [AfG 20 (u+1) (by omega) (by decide)]
open Go Go.RowKit Go.Proofs
open Rep (rep)
section
variable {Ty:Nat→Type} [rT:∀ k,Rep (Ty k)] [RFs] [UM Ty] [UML Ty] {P:Program} [UV Ty] [UL Ty]
theorem VD [UMP Ty P] {f:FuncId} {D:List (Nat×C)} {kp:Nat} {E:List Wo} {Fn:C.Ds Ty (Af D)→Option (YT Ty E)} (hlt:Nat.blt f A8=true)
  (H:∀ (x:C.Ds Ty (Af D))(y:YT Ty E),Fn x=some y→∀ (F:Fr)(h:Ak)(g:GE)(w:World)(vals:List Value)(R:Ending→World→Prop),A2 F h g (AL.get (Av D x).s) w→SQ (2*AK) (AL.get (Av D x).s)→V.dens g h (Zb5 (Af D) x ⟨0,0,[]⟩).1 vals →
   (∀ (F3:Fr)(h2:Ak)(g2:GE)(w3:World)(st:St Ty)(p:Bool)(rv:List (V Ty))(rus:List Value),st.m=[]→FD F F3 [] []→Ak.le h h2→(∀ i,i<2*AK→g2 i=g i)→2*AK≤st.nx→A2 F3 h2 g2 (AL.get st.s) w3→SQ st.nx (AL.get st.s)→Io kp p rv st E=some y→V.dens g2 h2 rv rus→V.oksB (Eh st.nx) rv=true→R (Aeb p (YX rus)) w3) →
   Calls P f vals.toArray w R):Au P f (AB D kp E Fn):=by
 intro args k s r hr F h g w vals hm hin hargs hden
 unfold AB at hr
 split at hr
 · rename_i x ρ vs' s' n ht
   cases hl:Nat.beq (BJ ρ.p) kp with
   | false=>rw [hl] at hr; cases hr
   | true =>
    rw [hl,Zab,Tr.runK_ask] at hr
    have hl:ρ.p.length=kp:=by rw [← AP]; exact Zac hl
    obtain⟨y,hy,hr⟩:=Zag.1 hr
    obtain⟨h1,g1,T⟩:=Hr ht hm hin hargs hden
    obtain⟨X,hX,back⟩:=T.pre.mem.lendC T.pre.is_ T.nodup T.lp T.lr T.lt T.cells
    refine .of hlt (H x y hy ⟨F.w,F.h,X⟩ h1 (fun i=>g1 (SR ρ.p ρ.r i)) w vals (Sa F h g k r) hX T.ins T.denc ?_)
    · intro F3 h2 g2 w3 st p rv rus hsm hf3 q1 q2 q3 hm3 his hty hrd hro
      have q4:RS 0 F3 h2 g2 st.nx st.m st.s #[] w3:=⟨rfl,(by rw [hsm]; intro k v hv; cases hv),hm3,(by rw [hsm]; intro k v hv; cases hv),his⟩
      refine QG (K:=fun e a=>(Ah7 ρ s' n e a).runK some=some r) (fun e a hp hx ha=>?_) hty (Aqh (fun e a h=>h) hr)
      have lp:=T.lp
      obtain⟨h3,gc,r1,r2,r3,r4,r5,r6⟩:=QF hx q4 (by omega) hrd hro
      unfold Ah7 at ha
      simp only at ha
      generalize hmm:(Zb5 e.all a ⟨0,0,[]⟩).2=m at ha
      rw [Ph,AP,AP] at ha
      generalize hvv:(Zb5 e.all a ⟨0,0,[]⟩).1.drop (e.ps.length+e.sl.length)=vc at ha r5 r6
      cases hbb:((AeK vc).okB (Kk m.np m.nr) && AaX (Kk m.np m.nr) m.s && Nat.ble (BJ ρ.p) m.np && Nat.ble m.np AK) with
      | false=>rw [hbb] at ha; cases ha
      | true =>
       rw [hbb,Zab] at ha
       cases ha
       obtain⟨hbb,b5⟩:=A9 hbb
       obtain⟨hbb,b4⟩:=A9 hbb
       obtain⟨b2,b3⟩:=A9 hbb
       have b4:=Zah b4
       have b5:=Zah b5
       rw [AP] at b4
       have hmem:A2 F3 h3 gc (AL.get m.s) w3:=by rw [← hmm]; exact r4.mem
       obtain⟨F4,hf4,p1,p2,p3,p4⟩:=back (np:=m.np) (nr:=m.nr) hf3 hmem (Ak.le_trans q1 r1) (fun j hj=>by rw [r2 j (by omega),q2 j (by omega)]; show g1 (SR ρ.p ρ.r j)=_; rw [MK (by omega)]) (Sb b3) b4 b5
       have hnn:=T.pre.n
       have hgg:∀ i,Kk m.np m.nr i=true→VC g1 gc ρ.p.length n m.np (IN ρ.p ρ.p.length n m.np i)=gc i:=fun i hi=>(p4 i hi).1
       rw [AP]
       have hpp:e.k.isP true=p:=by cases hek:e.k <;> rw [hek] at hp <;> cases p <;> first | rfl | cases hp
       refine⟨h3,VC g1 gc ρ.p.length n m.np,YX rus,Ak.le_trans T.pre.le (Ak.le_trans q1 r1),fun i hi=>?_,p1.back hf4,p2,?_,V.okB_ren (fun i hi=>(p4 i hi).2) _ b2,V.den_ren hgg _ _ b2 (Ah9 r5),by rw [hpp]⟩
       · have:=A7.1 hi
         rw [p3 i (by omega)]; exact T.pre.g i hi
       · show k≤n+_+_; omega
 · cases hr
theorem Ny [UMP Ty P] {f:FuncId} {fn:Func} {c:Code} {D:List (Nat×C)} {kp:Nat} {E:List Wo} {Fn:C.Ds Ty (Af D)→Option (YT Ty E)} (hf:P.funcs[f]? = some fn) (hb:fn.body=some c) (hkey:Ah8 0 D=true) (hn:D.length≤fn.ntmps) (hlt:Nat.blt f A8=true)
  (H:∀ (x:C.Ds Ty (Af D))(y:YT Ty E),Fn x=some y→∀ (F:Fr)(h:Ak)(g:GE)(t:Array Value)(w:World)(R:Ending→World→Prop),RS fn.ntmps F h g (2*AK) (Av D x).m (Av D x).s t w →
   (∀ (F3:Fr)(h2:Ak)(g2:GE)(w3:World)(st:St Ty)(p:Bool)(rv:List (V Ty))(rus:List Value),st.m=[]→FD F F3 [] []→Ak.le h h2→(∀ i,i<2*AK→g2 i=g i)→2*AK≤st.nx→A2 F3 h2 g2 (AL.get st.s) w3→SQ st.nx (AL.get st.s)→Io kp p rv st E=some y→V.dens g2 h2 rv rus→V.oksB (Eh st.nx) rv=true→R (Aeb p (YX rus)) w3) →
   c.wp P (bodyPostM Fence.wide 0 P fn R) ⟨t,[]⟩ w):Au P f (AB D kp E Fn):=by
 intro args k s r hr F h g w vals hm hin hargs hden
 unfold AB at hr
 split at hr
 · rename_i x ρ vs' s' n ht
   cases hl:Nat.beq (BJ ρ.p) kp with
   | false=>rw [hl] at hr; cases hr
   | true =>
    rw [hl,Zab,Tr.runK_ask] at hr
    have hl:ρ.p.length=kp:=by rw [← AP]; exact Zac hl
    obtain⟨y,hy,hr⟩:=Zag.1 hr
    obtain⟨h1,g1,T⟩:=Hr ht hm hin hargs hden
    obtain⟨X,hX,back⟩:=T.pre.mem.lendC T.pre.is_ T.nodup T.lp T.lr T.lt T.cells
    have hlen:=V.dens_len hden
    have hlenc:(Zb5 (Af D) x ⟨0,0,[]⟩).1.length=D.length:=by rw [AcO,AhA]
    have hvl:vals.length=D.length:=by rw [V.dens_len T.denc,hlenc]
    refine .of hlt (callsIn_wide.1 (callsIn_of_wp_marks (n:=0) hf hb trivial (wpIn_wide.2 ?_)))
    have hget:∀ i u,vals[i]? = some u→(vals.toArray++Array.replicate (fn.ntmps-vals.toArray.size) Go.undef)[i]? = some u:=fun i u hu=>by
     have hlt:i<vals.length:=(Zaw.1 hu).1
     rw [Zbu (by simpa using hlt)]
     simpa using hu
    refine H x y hy ⟨F.w,F.h,X⟩ h1 (fun i=>g1 (SR ρ.p ρ.r i)) _ w (Sa F h g k r) ⟨?_,?_,hX,OR T.okc,T.ins⟩ ?_
    · simp only [Array.size_append,Zbm,Array.size_replicate]; omega
    · exact OQ (YY hget hkey hvl fun j u hu=>by rwa [Zas]) T.denc
    · intro F3 h2 g2 w3 st p rv rus hsm hf3 q1 q2 q3 hm3 his hty hrd hro
      have q4:RS 0 F3 h2 g2 st.nx st.m st.s #[] w3:=⟨rfl,(by rw [hsm]; intro k v hv; cases hv),hm3,(by rw [hsm]; intro k v hv; cases hv),his⟩
      refine QG (K:=fun e a=>(Ah7 ρ s' n e a).runK some=some r) (fun e a hp hx ha=>?_) hty (Aqh (fun e a h=>h) hr)
      have lp:=T.lp
      obtain⟨h3,gc,r1,r2,r3,r4,r5,r6⟩:=QF hx q4 (by omega) hrd hro
      unfold Ah7 at ha
      simp only at ha
      generalize hmm:(Zb5 e.all a ⟨0,0,[]⟩).2=m at ha
      rw [Ph,AP,AP] at ha
      generalize hvv:(Zb5 e.all a ⟨0,0,[]⟩).1.drop (e.ps.length+e.sl.length)=vc at ha r5 r6
      cases hbb:((AeK vc).okB (Kk m.np m.nr) && AaX (Kk m.np m.nr) m.s && Nat.ble (BJ ρ.p) m.np && Nat.ble m.np AK) with
      | false=>rw [hbb] at ha; cases ha
      | true =>
       rw [hbb,Zab] at ha
       cases ha
       obtain⟨hbb,b5⟩:=A9 hbb
       obtain⟨hbb,b4⟩:=A9 hbb
       obtain⟨b2,b3⟩:=A9 hbb
       have b4:=Zah b4
       have b5:=Zah b5
       rw [AP] at b4
       have hmem:A2 F3 h3 gc (AL.get m.s) w3:=by rw [← hmm]; exact r4.mem
       obtain⟨F4,hf4,p1,p2,p3,p4⟩:=back (np:=m.np) (nr:=m.nr) hf3 hmem (Ak.le_trans q1 r1) (fun j hj=>by rw [r2 j (by omega),q2 j (by omega)]; show g1 (SR ρ.p ρ.r j)=_; rw [MK (by omega)]) (Sb b3) b4 b5
       have hnn:=T.pre.n
       have hgg:∀ i,Kk m.np m.nr i=true→VC g1 gc ρ.p.length n m.np (IN ρ.p ρ.p.length n m.np i)=gc i:=fun i hi=>(p4 i hi).1
       rw [AP]
       have hpp:e.k.isP true=p:=by cases hek:e.k <;> rw [hek] at hp <;> cases p <;> first | rfl | cases hp
       refine⟨h3,VC g1 gc ρ.p.length n m.np,YX rus,Ak.le_trans T.pre.le (Ak.le_trans q1 r1),fun i hi=>?_,p1.back hf4,p2,?_,V.okB_ren (fun i hi=>(p4 i hi).2) _ b2,V.den_ren hgg _ _ b2 (Ah9 r5),by rw [hpp]⟩
       · have:=A7.1 hi
         rw [p3 i (by omega)]; exact T.pre.g i hi
       · show k≤n+_+_; omega
 · cases hr
end
section
variable {Ty:Nat→Type} [rT:∀ k,Rep (Ty k)] [RFs] [UM Ty] [UML Ty] {P:Program}
theorem HC {F:Fr} {h:Ak} {g:GE} {M:Mo Ty} {fn:Func} {t:Array Value} {R:Ending→World→Prop} {u:FrameMode} {rest:List Deferred} (hu:u≠.run) (hend:∀ F2 w2,FD F F2 [] []→A2 F2 h g M w2→LeavesInM Fence.wide 0 P fn t R rest u w2) :
  ∀ (bs:List Nat)(F':Fr)(w':World),FD F F' [] []→A2 F' h g M w'→bs.Nodup→(∀ b∈bs,F.X b=none∧F'.X b=some (.deferred (some [])))→LeavesInM Fence.wide 0 P fn t R (bs.map AmF++rest) u w'
 | [],F',w',hf,hm,_,_=>hend F' w' hf hm
 | b::bs,F',w',hf,hm,hn,hx=>by
  obtain⟨h0,hb⟩:=hx b (by simp)
  obtain⟨n1,n2⟩:=Zbn.1 hn
  have hlt:=(Zai.1 (hm.ext b _ hb).2.1).1
  refine⟨hu,.inl ⟨b,_,rfl,run_takeDeferred (hm.ext b _ hb).2.1,?_⟩⟩
  refine HC hu hend bs (F'.put b (some (.deferred none))) _ ⟨hf.w,hf.h,fun c x hc=>?_,[],rfl,Zbv,by simp⟩ (hm.setX hb (Oo w' b _) (World.putObj_heap_same hlt)) n2 fun c hc=>?_
  · show(if c=b then _ else F'.X c)=some x
    rw [if_neg (fun hcb=>by rw [hcb,h0] at hc; cases hc)]
    exact hf.X c x hc
  · have hcb:c≠b:=fun hcb=>n1 (hcb▸hc)
    obtain⟨q1,q2⟩:=hx c (by simp [hc])
    refine⟨q1,?_⟩
    show(if c=b then _ else F'.X c)=_
    rw [if_neg hcb]; exact q2
theorem FD.nil {F F':Fr} {d d':List Deferred} (h:FD F F' d d'):FD F F' [] []:=⟨h.w,h.h,h.X,[],rfl,Zbv,by simp⟩
end
theorem Yl (w:World) (p:Addr) (v:Value):w.grownBy (w.setCell p v) (some p.block) :=
 ⟨rfl,rfl,rfl,by simp [World.setCell],fun k _ hk=>by
  unfold World.setCell
  simp only [Array.getElem?_modify]
  rw [if_neg (fun hh=>hk (by rw [hh]))]⟩
theorem Als {w:World} {b:Nat} {u v:Value} {T:TypeId} (h:w.heap[b]? = some (.cells #[u] T (0,0))):(w.setCell ⟨b,0,none⟩ v).heap[b]? = some (.cells #[v] T (0,0)):=by
 unfold World.setCell
 simp [Array.getElem?_modify,h]
def AhR:Value→Bool
 | .string _=>true
 | _=>false
def Akm (h h':Ak):Prop:=∀ b o v,h b o=some v→AhR v=false→h' b o=some v
def Vf (T:Type) [Rep T]:Prop:=∀ (h h':Ak)(x:T)(cs:List Value),Akm h h'→rep h x cs→rep h' x cs∧∀ v∈cs,AhR v=false
theorem Vf.int:Vf Int:=fun h h' x cs _ hr=>by
 have:cs=[.int .i64 x]:=hr
 subst this
 exact⟨rfl,by simp [AhR]⟩
theorem Vf.ik {k:IntKind}:Vf (IK k):=fun h h' x cs _ hr=>by
 have:cs=[.int k x.n]:=hr
 subst this
 exact⟨rfl,by simp [AhR]⟩
theorem Vf.pair {α β:Type} [Rep α] [Rep β] (ha:Vf α) (hb:Vf β):Vf (α×β):=fun h h' x cs hk hr=>by
 obtain⟨c1,c2,e,h1,h2⟩:=hr
 obtain⟨a1,a2⟩:=ha h h' _ _ hk h1
 obtain⟨b1,b2⟩:=hb h h' _ _ hk h2
 refine⟨⟨c1,c2,e,a1,b1⟩,fun v hv=>?_⟩
 rw [e] at hv
 rcases Zal.1 hv with hv | hv
 · exact a2 v hv
 · exact b2 v hv
theorem Vf.cells {α:Type} [Rep α] (ha:Vf α) {h h':Ak} (hk:Akm h h'):∀ {xs:List α} {vs:List Value},AC h xs vs→AC h' xs vs∧∀ v∈vs,AhR v=false
 | [],vs,hc=>by
  have:vs=[]:=hc
  subst this
  exact⟨rfl,by simp⟩
 | x::r,vs,hc=>by
  obtain⟨c1,c2,e,h1,h2⟩:=hc
  obtain⟨a1,a2⟩:=ha h h' _ _ hk h1
  obtain⟨b1,b2⟩:=Vf.cells ha hk h2
  refine⟨⟨c1,c2,e,a1,b1⟩,fun v hv=>?_⟩
  rw [e] at hv
  rcases Zal.1 hv with hv | hv
  · exact a2 v hv
  · exact b2 v hv
theorem Vf.slice {α:Type} [Rep α] (ha:Vf α) {h h':Ak} (hk:Akm h h') {a:Option Addr} {c:Nat} {xs:List α} (hr:MF h a c xs):MF h' a c xs:=by
 obtain⟨vs,h1,h2,h3⟩:=hr
 obtain⟨b1,b2⟩:=ha.cells hk h1
 refine⟨vs,b1,fun o x hx=>?_,h3⟩
 obtain⟨ad,e1,e2,e3⟩:=h2 o x hx
 exact⟨ad,e1,e2,hk _ _ _ e3 (b2 x (ZaA hx))⟩
theorem Vf.list {α:Type} [Rep α] (ha:Vf α):Vf (List α):=fun h h' x cs hk hr=>by
 obtain⟨a,c,e,hs⟩:=hr
 subst e
 exact⟨⟨a,c,rfl,ha.slice hk hs⟩,by simp [AhR]⟩
theorem Vf.via {α β:Type} [Rep β] [ra:Rep α] {f:α→β} (hf:∀ (h:Ak)(x:α)(cs:List Value),@rep α ra h x cs↔rep h (f x) cs) (hb:Vf β) : @Vf α ra:=fun h h' x cs hk hr=>by
 obtain⟨a1,a2⟩:=hb h h' (f x) cs hk ((hf h x cs).1 hr)
 exact⟨(hf h' x cs).2 a1,a2⟩
theorem Aqm:Vf A1:=Vf.via (f:=fun x:A1=>(x.bus,x.number,x.minute,x.kind,x.part,x.sg)) (fun _ _ _=>Iff.rfl) (.pair .int (.pair .int (.pair .int (.pair .ik (.pair .int .int)))))
theorem AtZ:Vf Xy:=Vf.via (f:=fun x:Xy=>(x.bus,x.fr)) (fun _ _ _=>Iff.rfl) (.pair .int .int)
theorem Aua:Vf AcQ:=Vf.via (f:=fun x:AcQ=>(x.bus,x.fr,x.to_,x.miles)) (fun _ _ _=>Iff.rfl) (.pair .int (.pair .int (.pair .int .int)))
theorem Akn:Vf Ag:=Vf.via (f:=fun x:Ag=>(x.machine,x.seq,x.minute,x.kind,x.a,x.b)) (fun _ _ _=>Iff.rfl) (.pair .int (.pair .int (.pair .int (.pair .ik (.pair .int .int)))))
theorem Axs:Vf Rg:=Vf.via (f:=fun x:Rg=>(x.lo,x.hi)) (fun _ _ _=>Iff.rfl) (.pair .int .int)
theorem Aqn:Vf AO:=Vf.via (f:=fun x:AO=>(x.day,x.on,x.off,x.route)) (fun _ _ _=>Iff.rfl) (.pair .int (.pair .int (.pair Axs .int)))
theorem Ako:Vf AT:=Vf.via (f:=fun x:AT=>(x.knows,x.leave,x.wish,x.off,x.row,x.used)) (fun _ _ _=>Iff.rfl) (.pair (.list .int) (.pair (.list .int) (.pair (.list .int) (.pair .int (.pair .int .int)))))
def Ax4 (k:Nat):Bool:=k == 180 || (k == 60 || (k == 62 || (k == 93 || (k == 184 || (k == 186 || (k == 3 || (k == 37 || (k == 65 || (k == 124 || (k == 125 || (k == 90 || (k == 191 || (k == 192)))))))))))))
theorem AwE {k:Nat} (h:Ax4 k=true):Vf (Ty k):=by
 have:k=180∨k=60∨k=62∨k=93∨k=184∨k=186∨k=3∨k=37∨k=65∨k=124∨k=125∨k=90∨k=191∨k=192:=by simpa [Ax4] using h
 rcases this with rfl | rfl | rfl | rfl | rfl | rfl | rfl | rfl | rfl | rfl | rfl | rfl | rfl | rfl
 · exact Aqm
 · exact AtZ
 · exact Aua
 · exact Akn
 · exact Aqn
 · exact Ako
 · exact Vf.int
 · exact Vf.int
 · exact Aqm
 · exact AtZ
 · exact Aua
 · exact Akn
 · exact Aqn
 · exact Ako
mutual
/-- a value that needs no string's cell; pointers to what is new from k on -/
def Aub (k:Nat):V Ty→Bool
 | .int _ _ | .bool _ | .str _ | .nilp | .nils | .nilm | .nilf | .nili | .undef=>true
 | .ptr i _=>Nat.ble k i
 | .lst e _=>Ax4 e
 | .agg cs | .tup cs=>Zku k cs
 | .ifc _ x=>Aub k x
 | _=>false
def Zku (k:Nat):List (V Ty)→Bool
 | []=>true
 | c::cs=>Aub k c && Zku k cs
end
mutual
theorem Alt {k:Nat} {g g':GE} {h h':Ak} (hk:Akm h h') (hg:∀ i,k≤i→g' i=g i):∀ {v:V Ty} {u:Value},Aub k v=true→v.den g h u→v.den g' h' u
 | .int _ _,u,_,hv | .bool _,u,_,hv | .str _,u,_,hv | .nilp,u,_,hv | .nils,u,_,hv | .nilm,u,_,hv | .nilf,u,_,hv | .nili,u,_,hv | .undef,u,_,hv=>hv
 | .ptr i off,u,hp,hv=>by
  unfold Aub at hp
  unfold V.den at hv ⊢
  rw [hg i (Zah hp)]; exact hv
 | .lst e l,u,hp,hv=>by
  unfold Aub at hp
  unfold V.den at hv ⊢
  obtain⟨a,c,e1,hr⟩:=hv
  exact⟨a,c,e1,(AwE hp).slice hk hr⟩
 | .agg cs,u,hp,hv=>by
  unfold Aub at hp
  unfold V.den at hv ⊢
  obtain⟨us,e,h1⟩:=hv
  exact⟨us,e,Zjc hk hg hp h1⟩
 | .tup cs,u,hp,hv=>by
  unfold Aub at hp
  unfold V.den at hv ⊢
  obtain⟨us,e,h1⟩:=hv
  exact⟨us,e,Zjc hk hg hp h1⟩
 | .ifc t x,u,hp,hv=>by
  unfold Aub at hp
  unfold V.den at hv ⊢
  obtain⟨us,e,h1⟩:=hv
  exact⟨us,e,Alt hk hg hp h1⟩
 | .ept _ _,_,hp,_ | .rpt _ _ _ _,_,hp,_ | .hdr _ _,_,hp,_ | .mp _,_,hp,_ | .bsl _ _,_,hp,_ | .fn _ _ _,_,hp,_ | .arr _ _,_,hp,_=>by simp [Aub] at hp
theorem Zjc {k:Nat} {g g':GE} {h h':Ak} (hk:Akm h h') (hg:∀ i,k≤i→g' i=g i):∀ {vs:List (V Ty)} {us:List Value},Zku k vs=true→V.dens g h vs us→V.dens g' h' vs us
 | [],us,_,hv=>hv
 | c::cs,us,hp,hv=>by
  unfold Zku at hp
  obtain⟨p1,p2⟩:=A9 hp
  unfold V.dens at hv ⊢
  obtain⟨u,us',e,h1,h2⟩:=hv
  exact⟨u,us',e,Alt hk hg p1 h1,Zjc hk hg p2 h2⟩
end
def AwN (k:Nat):AM Ty→Bool
 | []=>true
 | (i,.blk vs)::r=>Nat.ble k i && Zku k vs && AwN k r
 | _=>false
theorem Alu {k:Nat}:∀ {s:AM Ty} {i:Nat} {c:AR Ty},AwN k s=true→AL.get s i=some c→k≤i∧∃ vs,c=.blk vs∧Zku k vs=true
 | [],_,_,_,h=>by cases h
 | (j,.blk vs)::r,i,c,hs,h=>by
  unfold AwN at hs
  obtain⟨p1,p2⟩:=A9 hs
  obtain⟨p3,p4⟩:=A9 p1
  have h2:(bif Nat.beq j i then some (.blk vs) else AL.get r i)=some c:=h
  cases hb:Nat.beq j i with
  | true =>
   rw [hb] at h2
   cases h2
   have:=Zac hb
   subst this
   exact⟨Zah p3,vs,rfl,p4⟩
  | false =>
   rw [hb] at h2
   exact Alu p2 h2
 | (_,.row _ _)::_,_,_,hs,_ | (_,.arr _ _)::_,_,_,hs,_ | (_,.mp _ _ _)::_,_,_,hs,_ | (_,.lp _ _ _ _ _)::_,_,_,hs,_=>by simp [AwN] at hs
def Aqo (l:AA Ty):AA Ty:=fun args k s=>match args with
 | [.hdr k' i]=>bif Nat.beq k' 9 then(match AL.get s i with
     | some (.row k2 x)=>if h:k2=9 then(l [.lst 9 (h▸x)] k []).bind fun r=>bif AwN k r.s && Aub k r.v then .ret ⟨r.p,r.v,r.s++s,r.n⟩ else .fail else .fail
     | _=>.fail) else .fail
 | _=>l args k s
theorem Av6 {g:GE} {h:Ak} {x:V Ty} {vals:List Value} (hd:V.dens g h [x] vals):∃ u,vals=[u]∧x.den g h u:=by
 unfold V.dens at hd
 obtain⟨u,us,rfl,h1,h2⟩:=hd
 unfold V.dens at h2
 subst h2
 exact⟨u,rfl,h1⟩
theorem Aqp {g:GE} {h:Ak} {x:V Ty} {v:Value} (hd:x.den g h v):V.dens g h [x] [v]:=by unfold V.dens V.dens; exact⟨_,[],rfl,hd,rfl⟩
theorem Aqq {h:Ak}:∀ {xs:List ByteArray} {us:List Value},AC h xs us→∀ u∈us,∃ s,u=.string s
 | [],us,hc=>by
  have:us=[]:=hc
  subst this
  simp
 | x::r,us,hc=>by
  obtain⟨c1,c2,e,h1,h2⟩:=hc
  have:c1=[.string x]:=h1
  subst this e
  intro u hu
  rcases Zak.1 hu with rfl | hu
  · exact⟨x,rfl⟩
  · exact Aqq h2 u hu
theorem get_app {α:Type}:∀ (r s:List (Nat×α))(i:Nat),AL.get (r++s) i=(AL.get r i).or (AL.get s i)
 | [],_,_=>rfl
 | (j,c)::r,s,i=>by
  show(bif Nat.beq j i then some c else AL.get (r++s) i)=(bif Nat.beq j i then some c else AL.get r i).or (AL.get s i)
  cases Nat.beq j i
  · exact get_app r s i
  · rfl
theorem An5 {P:Program} [UMP Ty P] {f:FuncId} {l:AA Ty} (hf:f≠A8) (hl:Au P f l):Au P f (Aqo l):=by
 intro args k s r hr F h g w vals hm hin hargs hden
 unfold Aqo at hr
 split at hr
 · rename_i k' i
   cases hb:Nat.beq k' 9 with
   | false=>rw [hb] at hr; cases hr
   | true =>
   have hk':=Zac hb
   subst hk'
   rw [hb,Zab] at hr
   split at hr
   · rename_i k2 x hget
     split at hr
     · rename_i hk2
       subst hk2
       obtain⟨r1,e1,e2⟩:=Tr.run_bind hr
       cases hn:(AwN k r1.s && Aub k r1.v) with
       | false=>rw [hn] at e2; cases e2
       | true =>
       rw [hn,Zab] at e2
       cases e2
       obtain⟨n1,n2⟩:=A9 hn
       -- the row settles
       have hi:=hm.cell i _ hget
       obtain⟨hlen,hrow⟩:=hi
       obtain⟨u0,rfl,hu0⟩:=Av6 hden
       unfold V.den at hu0
       obtain⟨h1,hm1,hstr,hre⟩:∃ h1,A2 ⟨w,h1,AvO⟩ h1 g (fun _=>none:Mo Ty) w∧(∀ b o v,h1 b o=some v→AhR v=false→h b o=some v)∧V.dens g h1 [.lst 9 x] [u0]:=by
        cases hnl:(g i).nl with
        | true =>
         rw [hnl] at hrow hu0
         simp only [if_true] at hrow hu0
         have hx:x=[]:=Zb2.1 (by omega)
         subst hx
         refine⟨h,A2.begin h w g hm.has hm.gl,fun _ _ _ q _=>q,Aqp ?_⟩
         unfold V.den
         exact⟨none,0,hu0,MF.nil⟩
        | false =>
         rw [hnl] at hrow hu0
         simp only [Za0,if_false] at hrow hu0
         obtain⟨us,sp,hb,hcells,hlen2,hnc,hmax⟩:=hrow
         obtain⟨o1,o2,o3,o4⟩:=hm.own i _ hget hnl
         have hst:=Aqq hcells
         have hle:Ak.le h (fun b o=>if b=(g i).b then us[o]? else h b o):=fun b o v hv=>by
          have hne:b≠(g i).b:=fun hh=>by rw [hh,o4 o] at hv; cases hv
          simp only [hne,if_false]; exact hv
         refine⟨fun b o=>if b=(g i).b then us[o]? else h b o,A2.begin _ w g ?_ hm.gl,?_,Aqp ?_⟩
         · intro b o v hv
           replace hv:(if b=(g i).b then us[o]? else h b o)=some v:=hv
           split at hv
           · rename_i hh
             rw [hh]
             obtain⟨s0,rfl⟩:=hst v (ZaA hv)
             refine⟨o2,OO ?_ (Gw rfl)⟩
             rw [cell_of_row w _ o _ _ _ hb]
             simp only [List.getElem?_toArray]
             rw [Zau (Zaw.1 hv).1]
             exact hv
           · exact hm.has b o v hv
         · intro b o v hv hns
           replace hv:(if b=(g i).b then us[o]? else h b o)=some v:=hv
           split at hv
           · obtain⟨s0,rfl⟩:=hst v (ZaA hv)
             cases hns
           · exact hv
         · unfold V.den
           refine⟨_,_,by rw [hu0,hlen],us,hcells.mono hle,fun o v hv=>?_,by omega⟩
           exact⟨⟨(g i).b,0,none⟩,rfl,rfl,by simp [hv]⟩
       have hc:=(hl [.lst 9 x] k [] r1 e1 ⟨w,h1,AvO⟩ h1 g w _ hm1 (fun i c hi=>by cases hi) (by simp [V.oksB,V.okB]) hre)
       refine hc.mono fun en w2 hcr=>?_
       obtain⟨h2,g2,u,q1,q2,q3,q4,q5,q6,q7,q8⟩:=hcr
       have bl:=q3.below
       have hmg:=hm.grow ⟨bl.os,bl.tape,bl.output,bl.size,fun i hi _=>bl.block i hi⟩
       let hN:Ak:=fun b o=>if b<w.heap.size then h b o else h2 b o
       let gN:GE:=fun j=>if j<k then g j else g2 j
       have hNlt:∀ b o,b<w.heap.size→hN b o=h b o:=fun b o hb=>if_pos hb
       have hNge:∀ b o,w.heap.size≤b→hN b o=h2 b o:=fun b o hb=>if_neg (by omega)
       have hgl:∀ j,j<k→gN j=g j:=fun j hj=>if_pos hj
       have hgg:∀ j,k≤j→gN j=g2 j:=fun j hj=>if_neg (by omega)
       have hleN:Ak.le h hN:=fun b o v hv=>by rw [hNlt b o (hm.lt hv)]; exact hv
       have hkeep:Akm h2 hN:=fun b o v hv hns=>by
        rcases Za5 b w.heap.size with hb | hb
        · rw [hNlt b o hb]
          rcases q3.old b o v hv with h' | h'
          · exact hstr b o v h' hns
          · exact absurd hb (by have:w.heap.size≤b:=h'; omega)
        · rw [hNge b o hb]; exact hv
       have hX:∀ b,w.heap.size≤b→F.X b=none:=fun b hb=>by
        cases hx:F.X b with
        | none=>rfl
        | some y=>have:=(Zai.1 (hm.ext b y hx).2.1).1; omega
       have hget2:∀ j c,AL.get (r1.s++s) j=some c→(AL.get r1.s j=some c∧k≤j)∨(AL.get s j=some c∧j<k):=fun j c hj=>by
        rw [get_app] at hj
        cases hr1:AL.get r1.s j with
        | some c' =>
         rw [hr1] at hj
         have:c' = c:=by simpa using hj
         subst this
         exact .inl ⟨rfl,(Alu n1 hr1).1⟩
        | none =>
         rw [hr1] at hj
         have:AL.get s j=some c:=by simpa using hj
         exact .inr ⟨this,A7.1 (hin j c this).1⟩
       refine⟨hN,gN,u,hleN,fun j hj=>hgl j (A7.1 hj),⟨hmg.below,fun b o v hv=>hleN b o v (hm.le b o v hv),?_,?_,?_,?_,?_,?_,hm.glo⟩,?_,q5,q6,Alt hkeep hgg n2 q7,q8⟩
       · intro b o v hv
         rcases Za5 b w.heap.size with hb | hb
         · rw [hNlt b o hb] at hv; exact hm.old b o v hv
         · exact .inr (ZaO hm.size hb)
       · intro b o v hv
         rcases Za5 b w.heap.size with hb | hb
         · rw [hNlt b o hb] at hv; exact hmg.has b o v hv
         · rw [hNge b o hb] at hv; exact q3.has b o v hv
       · intro j c hj
         rcases hget2 j c hj with⟨h',hkj⟩ | ⟨h',hjk⟩
         · obtain⟨_,vs,rfl,hns⟩:=Alu n1 h'
           rw [hgg j hkj]
           obtain⟨c0,us,T,c1,c2,c3⟩:=q3.cell j _ h'
           exact⟨c0,us,T,c1,Zjc hkeep hgg hns c2,c3⟩
         · rw [hgl j hjk]
           exact((hmg.cell j c h').mono hleN).agree (fun l hl=>hgl l (A7.1 hl)) (hin j c h').2
       · intro j c hj hn'
         rcases hget2 j c hj with⟨h',hkj⟩ | ⟨h',hjk⟩
         · rw [hgg j hkj] at hn' ⊢
           obtain⟨c0,c1,c2,c3⟩:=q3.own j c h' hn'
           have c0':w.heap.size≤(g2 j).b:=c0
           exact⟨ZaO hm.size c0,c1,hX _ c0,fun o=>by rw [hNge _ o c0']; exact c3 o⟩
         · rw [hgl j hjk] at hn' ⊢
           obtain⟨c0,c1,c2,c3⟩:=hmg.own j c h' hn'
           exact⟨c0,c1,c2,fun o=>by rw [hNlt _ o (hm.own j c h' hn').2.1]; exact c3 o⟩
       · intro j l c d hj hl hnj hnl heq
         rcases hget2 j c hj with⟨hj',hkj⟩ | ⟨hj',hjk⟩ <;> rcases hget2 l d hl with⟨hl',hkl⟩ | ⟨hl',hlk⟩
         · rw [hgg j hkj] at hnj heq; rw [hgg l hkl] at hnl heq
           exact q3.inj j l c d hj' hl' hnj hnl heq
         · rw [hgg j hkj] at hnj heq; rw [hgl l hlk] at hnl heq
           have c0:w.heap.size≤(g2 j).b:=(q3.own j c hj' hnj).1
           have:=(hm.own l d hl' hnl).2.1
           omega
         · rw [hgl j hjk] at hnj heq; rw [hgg l hkl] at hnl heq
           have c0:w.heap.size≤(g2 l).b:=(q3.own l d hl' hnl).1
           have:=(hm.own j c hj' hnj).2.1
           omega
         · rw [hgl j hjk] at hnj heq; rw [hgl l hlk] at hnl heq
           exact hm.inj j l c d hj' hl' hnj hnl heq
       · intro b x' hx
         obtain⟨c0,c1,c2⟩:=hmg.ext b x' hx
         have hb:=(Zai.1 (hm.ext b x' hx).2.1).1
         exact⟨c0,c1,fun o=>by rw [hNlt b o hb]; exact c2 o⟩
       · intro j c hj
         rcases hget2 j c hj with⟨h',_⟩ | ⟨h',_⟩
         · exact q4 j c h'
         · exact((hin.mono fun i hi=>A7.2 (Zao (A7.1 hi) q5)) j c h')
     · cases hr
   · cases hr
 · exact hl args k s r hr F h g w vals hm hin hargs hden
end Go.Proofs.YtkpgggfibljflaaGreatDoor
