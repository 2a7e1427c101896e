/- What a proof leans on: a machine that steps through code, and what functions compute. -/
import Derived.Test.YtkpgggfibljflaaGreatDoorgQS17
set_option linter.all false
set_option maxRecDepth 100000
namespace Go.Proofs.YtkpgggfibljflaaGreatDoor
noncomputable section
open Go Go.RowKit Go.Proofs
open Rep (rep)
def SI:Code→Code
 | .seq a _=>a
 | c=>c
theorem XC:Bs Tryz.f84=.seq (SI (Bs Tryz.f84)) (.seq (SI (KN 1 (Bs Tryz.f84))) (KN 2 (Bs Tryz.f84))):=by kernel_rfl
def Ft:List (Nat×C):=[(0,.u 114),(1,.s 9)]
def MJ:List Wo:=[⟨.ret,[.u 114],[],[.s 37]⟩]
def Ace (n:Nat) (g:Aa) (text:ByteArray):Option (Aa×Int×Unit):=(Wk n g text 0).bind fun y=>match y with
 | .inl a=>some (a.1,a.2.1.1,())
 | .inr a=>some (a.1,a.2.2.2.1.errno,())
def Yz (n:Nat) (y:C.Ds Ty (A9 Ft)):Option (YT Ty MJ):=Ace n y.1 y.2.1
def ZeN (n:Nat):FQ Ty:=ET Ft 1 MJ (Yz n)
def ZbV (x:C.Ds Ty (A9 Ft)):St Ty:=⟨[(4,.ptr 2000 0),(0,.ptr 0 0),(1,VB (UV.view 9 x.2.1))],[(0,.blk 0 (UV.view 114 x.1)),(2000,.blk 37 [.int .i64 0])],2064⟩
theorem Acf (x:C.Ds Ty (A9 Ft)):(Cv Tryz.prog 50 (BJ Tryz.prog [] []) (A0 []) (SI (Bs Tryz.f84)) (Bp Ft x)).runK some=some ⟨.normal,ZbV x⟩:=by kernel_rfl
theorem Acg (t:Array Value) (d:List Deferred) (w:World) (Q:Exit→Act→World→Prop) (p:Addr) (ht:t.size=50) (hp:t[4]? = some (.pointer (some p)))
  (hQ:∀ t',t'.size=50→(∀ k,k≠11→t'[k]? = t[k]?)→Q .normal ⟨t',⟨.fn (.func 137) #[.pointer (some p)],#[]⟩::d⟩ w):(SI (KN 1 (Bs Tryz.f84))).wp Tryz.prog Q ⟨t,d⟩ w:=by
 have hc:SI (KN 1 (Bs Tryz.f84))=Code.region 1
  #[{ dst:=some 11,op:=Op.makeFunc (Fn.func 137) #[] #[Operand.tmp 4],type:=1,pos := "garage.go:102",
      after:=#[],guard:=none },
    { dst:=none,op:=Op.defer { callee:=Callee.value (Operand.tmp 11),args:=#[],argTypes:=#[] },
      type:=0,pos := "garage.go:102",after:=#[{ on:=0,ground:=Ground.data }],guard:=none }]
  false:=by kernel_rfl
 rw [hc]
 have hmf:∀ (fn:Fn)(first cap:Array Value)(w:World),(Instr.makeFunc fn first cap).run Tryz.prog w=.ok (.func fn first cap) w:=fun _ _ _ _=>rfl
 have h4:4<t.size:=by omega
 have h11:11<t.size:=by omega
 have he:t.getD 4 Go.undef=.pointer (some p):=by simp [ZaA,hp]
 refine wp_region ?_
 simp [wpOps,go_sem,hmf,Region.wanted,Act.eval,h11]
 rw [hp]
 exact .inl (.inl (hQ _ (by simp [ht]) fun k hk=>by rw [ZaN (Ne.symm hk)]))
def Zb1 (a:Aa) (e:Int):Az Ty:=[(2000,.blk 0 [.int .i64 e]),(0,.blk 0 (UV.view 114 a))]
def ZeS (k:EK) (a:Aa) (e r:Int):Lf Ty:=⟨k.ext [.ifc 234 (.agg [.int .i64 r])],⟨[(4,.ptr 2000 0)],Zb1 a e,2064⟩⟩
theorem ZM (Fn:C.Ds Ty (A9 H1)→Option (YT Ty IJ)) (x:C.Ds Ty (A9 Ft)):(K4 H1 2 IJ Fn (ZbV x)).runK some=(Fn (x.1,x.2.1,((0:Int),()),())).bind fun y=>y.elim (fun a=>some (ZeS .ret a.1 a.2.1.1 0)) (fun a=>some (ZeS .pan a.1 a.2.1.1 a.2.2.2.1.errno)):=by kernel_rfl
theorem ZN {F:Fr} {h:Ad} {g:GE} {t:Array Value} {w:World} {a:Aa} {e:Int} (hk:MM g h ([(4,.ptr 2000 0)]:List (Nat×V Ty)) t) (hm:Ag F h g (AL.get (Zb1 a e)) w):∃ us,V.dens g h ([.int .i64 e]:List (V Ty)) us∧(results Tryz.f84 t).run Tryz.prog w=.ok (Ls us) w :=
 GU (P:=Tryz.prog) (m:=[(4,.ptr 2000 0)]) (s:=Zb1 a e) (vs:=[.int .i64 e]) hk hm (by kernel_rfl)
theorem Ach (a:Aa) (e:Int):DS 1 false ([.int .i64 e]:List (V Ty)) ⟨[],Zb1 a e,2064⟩ MJ=some (a,e,()):=by kernel_rfl
theorem Y0 (a:Aa) (e:Int):AL.get (Zb1 a e) 2000=some (.blk 0 [.int .i64 e]):=by kernel_rfl
theorem XD (n:Nat) (x:C.Ds Ty (A9 Ft)) (y:YT Ty MJ) (hy:Yz n x=some y) (F:Fr) (h:Ad) (g:GE) (t:Array Value) (w:World) (R:Ending→World→Prop) (hs:RS Tryz.f84.ntmps F h g (2*Au) (Bp Ft x).m (Bp Ft x).s t w)
  (hfin:∀ (F3:Fr)(h2:Ad)(g2:GE)(w3:World)(st:St Ty)(p:Bool)(rv:List (V Ty))(rus:List Value),st.m=[]→FD F F3 [] []→Ad.le h h2→(∀ i,i<2*Au→g2 i=g i)→2*Au≤st.nx→Ag F3 h2 g2 (AL.get st.s) w3→HG st.nx (AL.get st.s)→DS 1 p rv st MJ=some y→V.dens g2 h2 rv rus→V.oksB (Cl st.nx) rv=true→R (NW p (Ls rus)) w3) :
  (Bs Tryz.f84).wp Tryz.prog (bodyPostM Fence.wide 0 Tryz.prog Tryz.f84 R) ⟨t,[]⟩ w:=by
 have hn:Tryz.f84.ntmps=50:=by kernel_rfl
 rw [hn] at hs
 rw [XC]
 refine wp_seq ?_
 refine Bg (y:=true) (call:=BJ Tryz.prog [] []) (cuts:=A0 []) Ae Aj (A3 (T:=[]) (I:=[]) Ae Aj trivial trivial) (fun h=>by cases h) (SI (Bs Tryz.f84)) (fun h=>by cases h) (fun _ _ _ hf=>by cases hf) (Bp Ft x) _ (Acf x) F h g t w _ [] hs ?_
 intro F1 d1 h1 g1 t1 w1 q0 q1 q2 q3 q4
 have hnx:(Bp Ft x).nx=2*Au:=rfl
 rw [hnx] at q2
 show Code.wp Tryz.prog _ (bodyPostM Fence.wide 0 Tryz.prog Tryz.f84 R) ⟨t1,d1⟩ w1
 refine wp_seq ?_
 obtain⟨u,hu,hd⟩:=q4.kn 4 (.ptr 2000 0) rfl
 unfold V.den at hd
 subst hd
 refine Acg t1 d1 w1 _ ⟨(g1 2000).b,0,none⟩ q4.size hu fun t2 ht2 hk2=>?_
 show Code.wp Tryz.prog (KN 2 (Bs Tryz.f84)) (bodyPostM Fence.wide 0 Tryz.prog Tryz.f84 R) _ w1
 have hcut:Bm true Tryz.prog 50 (K4 H1 2 IJ (MI n)) (KN 2 (Bs Tryz.f84)):=FO fun x y hy=>ZL n hy
 have hk3:MM g1 h1 (ZbV x).m t2:=fun k v hv=>by
  obtain⟨u',e1,e2⟩:=q4.kn k v hv
  refine⟨u',?_,e2⟩
  rw [hk2 k ?_]; exact e1
  intro hh
  subst hh
  cases hv
 have hs2:RS 50 F1 h1 g1 (ZbV x).nx (ZbV x).m (ZbV x).s t2 w1:=⟨ht2,hk3,q4.mem,q4.im,q4.is_⟩
 -- what comes behind the body
 have fin:∀ (a:Aa)(e:Int),(a,e,())=y→∀ (F3:Fr)(h2:Ad)(g2:GE)(t3:Array Value)(w3:World),FD F F3 [] []→Ad.le h1 h2→(∀ i,i<2064→g2 i=g1 i)→MM g2 h2 ([(4,.ptr 2000 0)]:List (Nat×V Ty)) t3→Ag F3 h2 g2 (AL.get (Zb1 a e)) w3→HG 2064 (AL.get (Zb1 a e))→LeavesInM Fence.wide 0 Tryz.prog Tryz.f84 t3 R [] .returning w3:=by
  intro a e hye F3 h2 g2 t3 w3 f1 f2 f3 f4 f5 f6
  obtain⟨us,r1,r2⟩:=ZN f4 f5
  refine⟨Ls us,r2,?_⟩
  have hlt:2*Au≤2064:=by decide
  exact hfin F3 h2 g2 w3 ⟨[],Zb1 a e,2064⟩ false [.int .i64 e] us rfl f1 (Ad.le_trans q1 f2) (fun i hi=>by rw [f3 i (Zai hi hlt),q2 i hi]) hlt f5 f6 ((Ach a e).trans (congrArg some hye)) r1 rfl
 obtain⟨bs1,hd1,nd1,hX1⟩:=q0.ds
 rw [Zbd] at hd1
 have rest:∀ (a:Aa)(e:Int),(a,e,())=y→∀ (F3:Fr)(h2:Ad)(g2:GE)(t3:Array Value)(w3:World),FD F1 F3 [] []→Ad.le h1 h2→(∀ i,i<2064→g2 i=g1 i)→MM g2 h2 ([(4,.ptr 2000 0)]:List (Nat×V Ty)) t3→Ag F3 h2 g2 (AL.get (Zb1 a e)) w3→HG 2064 (AL.get (Zb1 a e))→LeavesInM Fence.wide 0 Tryz.prog Tryz.f84 t3 R d1 .returning w3:=by
  intro a e hye F3 h2 g2 t3 w3 f1 f2 f3 f4 f5 f6
  have:=DI (P:=Tryz.prog) (F:=F) (h:=h2) (g:=g2) (M:=AL.get (Zb1 a e)) (fn:=Tryz.f84) (t:=t3) (R:=R) (u:=.returning) (rest:=[]) (by simp) (fun F4 w4 k1 k2=>fin a e hye F4 h2 g2 t3 w4 k1 f2 f3 f4 k2 f6) bs1 F3 w3 ⟨by rw [f1.w,q0.w],by rw [f1.h,q0.h],fun b o hb=>f1.X b o (q0.X b o hb),[],rfl,Zbt,by simp⟩ f5 nd1 fun b hb=>⟨(hX1 b hb).1,f1.X _ _ (hX1 b hb).2⟩
  rw [Zbd] at this
  rw [hd1]; exact this
 have hy2:((Wk n x.1 x.2.1 0).bind fun y=>match y with
  | .inl a=>some (a.1,a.2.1.1,())
  | .inr a=>some (a.1,a.2.2.2.1.errno,()))=some y:=hy
 obtain⟨y0,hy0,hy3⟩:=Zae.1 hy2
 have hrun:=ZM (MI n) x
 have hB:MI n (x.1,x.2.1,((0:Int),()),())=some y0:=hy0
 rw [hB] at hrun
 cases y0 with
 | inl a =>
  have hye:=Option.some.inj hy3
  refine hcut (ZbV x) _ hrun F1 h1 g1 t2 w1 _ _ hs2 ?_
  intro F2 d2 h2 g2 t3 w2 p0 p1 p2 p3 p4
  show LeavesInM Fence.wide 0 Tryz.prog Tryz.f84 t3 R d2 .returning w2
  obtain⟨bs,hd2,nd,hX⟩:=p0.ds
  rw [hd2]
  refine DI (P:=Tryz.prog) (F:=F1) (h:=h2) (g:=g2) (M:=AL.get (Zb1 a.1 a.2.1.1)) (by simp) (fun F4 w4 k1 k2=>?_) bs F2 w2 p0.nil p4.mem nd hX
  refine⟨by simp,.inr ⟨fun hh=>by simp [Fence.wide] at hh,_,_,137,#[.pointer (some ⟨(g1 2000).b,0,none⟩)],rfl,by simp [go_sem],fun _ _=>trivial,?_⟩⟩
  refine(XA _ w4).mono ?_
  rintro e u' w' ⟨rfl,rfl,rfl⟩
  exact rest a.1 a.2.1.1 hye F4 h2 g2 t3 w' k1 p1 (fun i hi=>p2 i hi) p4.kn k2 p4.is_
 | inr a =>
  have hye:=Option.some.inj hy3
  refine hcut (ZbV x) _ hrun F1 h1 g1 t2 w1 _ _ hs2 ?_
  intro F2 d2 h2 g2 t3 w2 p0 p1 p2 p3 p4
  intro v hv _
  show LeavesInM Fence.wide 0 Tryz.prog Tryz.f84 t3 R d2 (.panicking [{ v:=v,recovered:=false }]) w2
  have hvv:v=.iface 234 (.agg #[.int .i64 a.2.2.2.1.errno]):=by
   have hv:V.den g2 h2 (.ifc 234 (.agg [.int .i64 a.2.2.2.1.errno]):V Ty) v:=hv
   unfold V.den at hv
   obtain⟨z,rfl,hz⟩:=hv
   unfold V.den at hz
   obtain⟨us,rfl,hz⟩:=hz
   unfold V.dens at hz
   obtain⟨u1,us1,rfl,hz1,hz2⟩:=hz
   unfold V.dens at hz2
   unfold V.den at hz1
   subst hz1 hz2
   rfl
  subst hvv
  obtain⟨bs,hd2,nd,hX⟩:=p0.ds
  rw [hd2]
  refine DI (P:=Tryz.prog) (F:=F1) (h:=h2) (g:=g2) (M:=AL.get (Zb1 a.1 a.2.1.1)) (by simp) (fun F4 w4 k1 k2=>?_) bs F2 w2 p0.nil p4.mem nd hX
  refine⟨by simp,.inr ⟨fun hh=>by simp [Fence.wide] at hh,_,_,137,#[.pointer (some ⟨(g1 2000).b,0,none⟩)],rfl,by simp [go_sem],fun _ _=>trivial,?_⟩⟩
  have hm20:=Y0 a.1 a.2.1.1
  obtain⟨us,T,b1,b2,b3,b4,b5⟩:=k2.blk hm20
  unfold V.dens at b2
  obtain⟨u1,us1,rfl,b6,b7⟩:=b2
  unfold V.dens at b7
  unfold V.den at b6
  subst b6 b7
  have hg20:(g2 2000).b=(g1 2000).b:=by rw [p2 2000 (show(2000:Nat)<2064 by decide)]
  rw [hg20] at b1
  have hlt:(g1 2000).b<w4.heap.size:=(Zag.1 b1).1
  have hfz:w4.frozen? ⟨(g1 2000).b,0,none⟩=false:=by simp [World.frozen?,b1]
  have hcl:w4.cell? ⟨(g1 2000).b,0,none⟩=some (.int .i64 a.2.1.1):=by
   have:=b5 0 _ rfl
   rw [hg20] at this
   exact this
  refine(OD ⟨(g1 2000).b,0,none⟩ a.2.1.1 a.2.2.2.1.errno w4 hlt hcl hfz).mono ?_
  rintro e u' w' ⟨rfl,rfl,rfl⟩
  have ha:(w4.alloc (.cells #[.int .i64 a.2.2.2.1.errno] 234)).heap[(g1 2000).b]? = some (.cells #[.int .i64 a.2.1.1] T (0,0)):=by
   rw [show(w4.alloc (.cells #[.int .i64 a.2.2.2.1.errno] 234)).heap=w4.heap.push (.cells #[.int .i64 a.2.2.2.1.errno] 234) from rfl,ZaZ,if_neg (by omega)]
   exact b1
  have hgr:w4.grownBy (w4.alloc (.cells #[.int .i64 a.2.2.2.1.errno] 234)) none:=World.grownBy_alloc _ _ none
  have hm5:=(k2.grow hgr).set hm20 b4 (w':=(w4.alloc (.cells #[.int .i64 a.2.2.2.1.errno] 234)).setCell ⟨(g1 2000).b,0,none⟩ (.int .i64 a.2.2.2.1.errno)) (by rw [hg20]; exact H9 _ ⟨(g1 2000).b,0,none⟩ _) (c':=.blk 0 [.int .i64 a.2.2.2.1.errno]) ⟨b4,[.int .i64 a.2.2.2.1.errno],T,by rw [hg20]; exact TS ha,by unfold V.dens V.dens; exact⟨_,[],rfl,by unfold V.den; rfl,rfl⟩,fun u hu=>by simp at hu; subst hu; rfl,.inl rfl⟩
  have hsame:Mo.put (AL.get (Zb1 a.1 a.2.1.1)) 2000 (some (.blk 0 [.int .i64 a.2.2.2.1.errno]))=AL.get (Zb1 a.1 a.2.2.2.1.errno):=by
   funext j
   unfold Mo.put
   by_cases hj:j=2000
   · subst hj; rw [if_pos rfl,Y0]
   · rw [if_neg hj]
     show(bif Nat.beq 2000 j then _ else(bif Nat.beq 0 j then _ else none))=(bif Nat.beq 2000 j then _ else(bif Nat.beq 0 j then _ else none))
     have:Nat.beq 2000 j=false:=by
      cases hb:Nat.beq 2000 j with
      | false=>rfl
      | true=>exact absurd (Zab hb).symm hj
     rw [this]; rfl
  rw [hsame] at hm5
  have his5:HG 2064 (AL.get (Zb1 a.1 a.2.2.2.1.errno)):=fun i c hi=>by
   rw [← hsame] at hi
   unfold Mo.put at hi
   split at hi
   · rename_i hj; subst hj; cases hi; exact⟨rfl,rfl⟩
   · exact p4.is_ i c hi
  exact rest a.1 a.2.2.2.1.errno hye F4 h2 g2 t3 _ k1 p1 (fun i hi=>p2 i hi) p4.kn hm5 his5
theorem Wn (n:Nat):AX Tryz.prog 84 (ZeN n):=FZ Tryz.func84 rfl rfl (by decide) rfl (XD n)
def Dk:Nat→(List ByteArray)→Int→Int→Option (Unit ⊕ ((Int×Unit)))
 | 0,_,_,_=>none
 | n+1,x8,x9,x10 =>
  bif decide (x10<x9) then((A4 x8 x10).bind fun v0 =>
  bif decide ((↑v0.size:Int)>200) then(some (.inr (3,()))) else
  Dk n x8 x9 (IntKind.i64.wrap (x10+1))) else
  some (.inl ())
def CL (n:Nat) (lines:List ByteArray):Option ((Int×Unit)) :=
 bif decide ((↑lines.length:Int)>50) then(some (3,())) else
 (Dk n lines (↑lines.length:Int) 0).bind fun v0 =>
 Sum.elim (fun v1=>some (0,())) (fun v1=>some (v1.fst,())) (v0)
def ZdX:CB Tryz.f52:=lp 4 [(8,.l 9),(9,.s 3),(10,.s 3)] 0 [⟨.exit 0,[],[],[]⟩,⟨.ret,[],[(2,.s 3)],[]⟩] (u3 Dk) [] []
def ZbR:LB:=(lw Tryz.func52 [.l 9] 0 (rt [.s 3]) (u1 CL) [] [ZdX]).rd
def AP:Nat→Int→Int→Int→(List I9)→Int→Int→Option ((Int×Int×Unit))
 | 0,_,_,_,_,_,_=>none
 | n+1,bus,n_,runs,x12,x13,x14 =>
  bif decide (x14<x13) then((A4 x12 x14).bind fun v0 =>
  bif decide (v0.bus=bus) then(AP n bus (IntKind.i64.wrap (n_+v0.miles)) (IntKind.i64.wrap (runs+1)) x12 x13 (IntKind.i64.wrap (x14+1))) else
  AP n bus n_ runs x12 x13 (IntKind.i64.wrap (x14+1))) else
  some (n_,(runs,()))
def AQ (n:Nat) (g:Aa) (bus:Int):Option ((Aa×Int×Int×Unit)) :=
 (AP n bus 0 0 g.state.runs (↑g.state.runs.length:Int) 0).bind fun v0 =>
 some (g,(v0.fst,(v0.snd.fst,())))
def ZcF:CB Tryz.f76:=lp 2 [(1,.s 3),(4,.s 3),(5,.s 3),(12,.l 62),(13,.s 3),(14,.s 3)] 0 [⟨.exit 0,[],[(4,.s 3),(5,.s 3)],[]⟩] (u6 AP) [] []
def ZbY:LB:=lw Tryz.func76 [.u 114,.s 3] 1 [⟨.ret,[.u 114],[],[.s 3,.s 3]⟩] (u2 AQ) [] [ZcF]
def D9:Nat→(List Ap)→(List Ap)→Int→Option (Unit ⊕ ((Bool×Unit)))
 | 0,_,_,_=>none
 | n+1,a,b,i =>
  bif decide (i<(↑a.length:Int)) then((A4 a i).bind fun v0 =>
  (A4 b i).bind fun v1 =>
  bif !(decide (v0.bus=v1.bus) && (decide (v0.number=v1.number) && (decide (v0.minute=v1.minute) && (decide (v0.kind.n=v1.kind.n) && (decide (v0.part=v1.part) && (decide (v0.sg=v1.sg) && true)))))) then(some (.inr (false,()))) else
  D9 n a b (IntKind.i64.wrap (i+1))) else
  some (.inl ())
def IM (n:Nat) (a:List Ap) (b:List Ap):Option ((Bool×Unit)) :=
 bif (↑a.length:Int) != (↑b.length:Int) then(some (false,())) else
 (D9 n a b 0).bind fun v0 =>
 Sum.elim (fun v1=>some (true,())) (fun v1=>some (v1.fst,())) (v0)
def Zex:CB Tryz.f54:=lp 4 [(0,.l 180),(1,.l 180),(5,.s 3)] 0 [⟨.exit 0,[],[],[]⟩,⟨.ret,[],[(4,.s 4)],[]⟩] (u3 D9) [] []
def ZeT:LB:=(lw Tryz.func54 [.l 180,.l 180] 0 (rt [.s 4]) (u2 IM) [] [Zex]).rd
def Ei:Nat→(List Jk)→(List Jk)→Int→Option (Unit ⊕ ((Bool×Unit)))
 | 0,_,_,_=>none
 | n+1,a,b,i =>
  bif decide (i<(↑a.length:Int)) then((A4 a i).bind fun v0 =>
  (A4 b i).bind fun v1 =>
  bif !(decide (v0.bus=v1.bus) && (decide (v0.fr=v1.fr) && true)) then(some (.inr (false,()))) else
  Ei n a b (IntKind.i64.wrap (i+1))) else
  some (.inl ())
def Kv (n:Nat) (a:List Jk) (b:List Jk):Option ((Bool×Unit)) :=
 bif (↑a.length:Int) != (↑b.length:Int) then(some (false,())) else
 (Ei n a b 0).bind fun v0 =>
 Sum.elim (fun v1=>some (true,())) (fun v1=>some (v1.fst,())) (v0)
def ZeA:CB Tryz.f55:=lp 4 [(0,.l 60),(1,.l 60),(5,.s 3)] 0 [⟨.exit 0,[],[],[]⟩,⟨.ret,[],[(4,.s 4)],[]⟩] (u3 Ei) [] []
def Zfc:LB:=(lw Tryz.func55 [.l 60,.l 60] 0 (rt [.s 4]) (u2 Kv) [] [ZeA]).rd
def Ej:Nat→(List I9)→(List I9)→Int→Option (Unit ⊕ ((Bool×Unit)))
 | 0,_,_,_=>none
 | n+1,a,b,i =>
  bif decide (i<(↑a.length:Int)) then((A4 a i).bind fun v0 =>
  (A4 b i).bind fun v1 =>
  bif !(decide (v0.bus=v1.bus) && (decide (v0.fr=v1.fr) && (decide (v0.to_=v1.to_) && (decide (v0.miles=v1.miles) && true)))) then(some (.inr (false,()))) else
  Ej n a b (IntKind.i64.wrap (i+1))) else
  some (.inl ())
def Kw (n:Nat) (a:List I9) (b:List I9):Option ((Bool×Unit)) :=
 bif (↑a.length:Int) != (↑b.length:Int) then(some (false,())) else
 (Ej n a b 0).bind fun v0 =>
 Sum.elim (fun v1=>some (true,())) (fun v1=>some (v1.fst,())) (v0)
def ZeB:CB Tryz.f56:=lp 4 [(0,.l 62),(1,.l 62),(5,.s 3)] 0 [⟨.exit 0,[],[],[]⟩,⟨.ret,[],[(4,.s 4)],[]⟩] (u3 Ej) [] []
def Zfd:LB:=(lw Tryz.func56 [.l 62,.l 62] 0 (rt [.s 4]) (u2 Kw) [] [ZeB]).rd
def Cy:Nat→(List Ab)→(List Ab)→Int→Option (Unit ⊕ ((Bool×Unit)))
 | 0,_,_,_=>none
 | n+1,a,b,i =>
  bif decide (i<(↑a.length:Int)) then((A4 a i).bind fun v0 =>
  (A4 b i).bind fun v1 =>
  bif !(decide (v0.machine=v1.machine) && (decide (v0.seq=v1.seq) && (decide (v0.minute=v1.minute) && (decide (v0.kind.n=v1.kind.n) && (decide (v0.a=v1.a) && (decide (v0.b=v1.b) && true)))))) then(some (.inr (false,()))) else
  Cy n a b (IntKind.i64.wrap (i+1))) else
  some (.inl ())
def G0 (n:Nat) (a:List Ab) (b:List Ab):Option ((Bool×Unit)) :=
 bif (↑a.length:Int) != (↑b.length:Int) then(some (false,())) else
 (Cy n a b 0).bind fun v0 =>
 Sum.elim (fun v1=>some (true,())) (fun v1=>some (v1.fst,())) (v0)
def Zed:CB Tryz.f57:=lp 4 [(0,.l 93),(1,.l 93),(5,.s 3)] 0 [⟨.exit 0,[],[],[]⟩,⟨.ret,[],[(4,.s 4)],[]⟩] (u3 Cy) [] []
def ZeC:LB:=(lw Tryz.func57 [.l 93,.l 93] 0 (rt [.s 4]) (u2 G0) [] [Zed]).rd
def Ek:Nat→(List Int)→(List Int)→Int→Option (Unit ⊕ ((Bool×Unit)))
 | 0,_,_,_=>none
 | n+1,a,b,i =>
  bif decide (i<(↑a.length:Int)) then((A4 a i).bind fun v0 =>
  (A4 b i).bind fun v1 =>
  bif v0 != v1 then(some (.inr (false,()))) else
  Ek n a b (IntKind.i64.wrap (i+1))) else
  some (.inl ())
def Cz (n:Nat) (a:List Int) (b:List Int):Option ((Bool×Unit)) :=
 bif (↑a.length:Int) != (↑b.length:Int) then(some (false,())) else
 (Ek n a b 0).bind fun v0 =>
 Sum.elim (fun v1=>some (true,())) (fun v1=>some (v1.fst,())) (v0)
def ZeD:CB Tryz.f32:=lp 4 [(0,.l 3),(1,.l 3),(5,.s 3)] 0 [⟨.exit 0,[],[],[]⟩,⟨.ret,[],[(4,.s 4)],[]⟩] (u3 Ek) [] []
def Zdg:LB:=(lw Tryz.func32 [.l 3,.l 3] 0 (rt [.s 4]) (u2 Cz) [] [ZeD]).rd
def CM:Nat→Aq→Aq→Int→Option ((Aq×Aq×Unit×Unit×Unit) ⊕ ((Aq×Aq×Bool×Unit)))
 | 0,_,_,_=>none
 | n+1,a,b,i =>
  bif decide (i<(↑a.duties.length:Int)) then((A4 a.duties i).bind fun v0 =>
  (A4 b.duties i).bind fun v1 =>
  bif !(decide (v0.day=v1.day) && (decide (v0.on=v1.on) && (decide (v0.off.lo=v1.off.lo) && (decide (v0.off.hi=v1.off.hi) && true) && (decide (v0.route=v1.route) && true)))) then(some (.inr (a,(b,(false,()))))) else
  CM n a b (IntKind.i64.wrap (i+1))) else
  some (.inl (a,(b,((),((),())))))
def CN:Nat→Aq→Aq→Int→Option ((Aq×Aq×Unit) ⊕ ((Aq×Aq×Bool×Unit)))
 | 0,_,_,_=>none
 | n+1,a,b,i =>
  bif decide (i<(↑a.drivers.length:Int)) then((A4 a.drivers i).bind fun v0 =>
  (A4 b.drivers i).bind fun v1 =>
  bif !v0.off != v1.off then(bif !v0.row != v1.row then(bif !v0.used != v1.used then((Cz n v0.knows v1.knows).bind fun v2 =>
  bif !!v2.fst then((Cz n v0.leave v1.leave).bind fun v3 =>
  bif !!v3.fst then((Cz n v0.wish v1.wish).bind fun v4 =>
  bif !v4.fst then(some (.inr (a,(b,(false,()))))) else
  CN n a b (IntKind.i64.wrap (i+1))) else
  some (.inr (a,(b,(false,()))))) else
  some (.inr (a,(b,(false,()))))) else
  some (.inr (a,(b,(false,()))))) else
  some (.inr (a,(b,(false,()))))) else
  some (.inr (a,(b,(false,()))))) else
  some (.inl (a,(b,())))
def IN (n:Nat) (a:Aq) (b:Aq):Option ((Bool×Unit)) :=
 bif !a.days != b.days then(bif !a.rest != b.rest then(bif !a.run != b.run then(bif !a.hours != b.hours then(bif !(↑a.duties.length:Int) != (↑b.duties.length:Int) then(bif (↑a.drivers.length:Int) != (↑b.drivers.length:Int) then(some (false,())) else
 (CM n a b 0).bind fun v0 =>
 Sum.elim (fun v1=>(CN n v1.fst v1.snd.fst 0).bind fun v2 =>
 Sum.elim (fun v3=>some (true,())) (fun v3=>some (v3.snd.snd.fst,())) (v2)) (fun v1=>some (v1.snd.snd.fst,())) (v0)) else
 some (false,())) else
 some (false,())) else
 some (false,())) else
 some (false,())) else
 some (false,())
def ZcV:List LB:=[Zdg]
def Zey:CB Tryz.f58:=lp 4 [(2,.u 32),(3,.u 32),(5,.s 3)] 2 [⟨.exit 0,[.u 32,.u 32],[(2,.q 0),(3,.q 1)],[]⟩,⟨.ret,[.u 32,.u 32],[(4,.s 4)],[]⟩] (u3 CM) ZcV []
def Zez:CB Tryz.f58:=lp 9 [(2,.u 32),(3,.u 32),(6,.s 3)] 2 [⟨.exit 2,[.u 32,.u 32],[],[]⟩,⟨.ret,[.u 32,.u 32],[(4,.s 4)],[]⟩] (u3 CN) ZcV []
def ZeU:LB:=lw Tryz.func58 [.g 32,.g 32] 0 (rt [.s 4]) (u2 IN) ZcV [Zey,Zez]
def E9:Nat→(List ByteArray)→(List ByteArray)→Int→Option (Unit ⊕ ((Bool×Unit)))
 | 0,_,_,_=>none
 | n+1,a,b,i =>
  bif decide (i<(↑a.length:Int)) then((A4 a i).bind fun v0 =>
  (A4 b i).bind fun v1 =>
  bif !v0.beq v1 then(some (.inr (false,()))) else
  E9 n a b (IntKind.i64.wrap (i+1))) else
  some (.inl ())
def IP (n:Nat) (a:List ByteArray) (b:List ByteArray):Option ((Bool×Unit)) :=
 bif (↑a.length:Int) != (↑b.length:Int) then(some (false,())) else
 (E9 n a b 0).bind fun v0 =>
 Sum.elim (fun v1=>some (true,())) (fun v1=>some (v1.fst,())) (v0)
def Ze0:CB Tryz.f41:=lp 4 [(0,.l 9),(1,.l 9),(5,.s 3)] 0 [⟨.exit 0,[],[],[]⟩,⟨.ret,[],[(4,.s 4)],[]⟩] (u3 E9) [] []
def ZeV:LB:=(lw Tryz.func41 [.l 9,.l 9] 0 (rt [.s 4]) (u2 IP) [] [Ze0]).rd
def Gb:Nat→(List ByteArray)→Int→Int→Option ((List ByteArray×Int×Unit))
 | 0,_,_,_=>none
 | n+1,lines,n_,i =>
  bif decide (i<(↑lines.length:Int)) then((A4 lines i).bind fun v0 =>
  Gb n lines (IntKind.i64.wrap (n_+(↑v0.size:Int))) (IntKind.i64.wrap (i+1))) else
  some (lines,(n_,()))
def MK (n:Nat) (lines:List ByteArray):Option ((Bool×Unit)) :=
 (Gb n lines 0 0).bind fun v0 =>
 bif decide ((↑v0.fst.length:Int)≤30) then(bif !decide (v0.snd.fst≤1200) then(bif decide ((↑v0.fst.length:Int)≤52) then(bif !decide (v0.snd.fst≤400) then(bif decide ((↑v0.fst.length:Int)=1) then(some (decide (v0.snd.fst≤210),())) else
 some (false,())) else
 some (true,())) else
 bif decide ((↑v0.fst.length:Int)=1) then(some (decide (v0.snd.fst≤210),())) else
 some (false,())) else
 some (true,())) else
 bif decide ((↑v0.fst.length:Int)≤52) then(bif !decide (v0.snd.fst≤400) then(bif decide ((↑v0.fst.length:Int)=1) then(some (decide (v0.snd.fst≤210),())) else
 some (false,())) else
 some (true,())) else
 bif decide ((↑v0.fst.length:Int)=1) then(some (decide (v0.snd.fst≤210),())) else
 some (false,())
def ZeO:CB Tryz.f19:=lp 3 [(0,.l 9),(3,.s 3),(4,.s 3)] 0 [⟨.exit 0,[],[(0,.l 9),(3,.s 3)],[]⟩] (u3 Gb) [] []
def Zfm:LB:=(lw Tryz.func19 [.l 9] 0 (rt [.s 4]) (u1 MK) [] [ZeO]).rd
def El (n:Nat) (l:List ByteArray):Option ((List ByteArray×Unit)) :=
 (app [] l).bind fun v0 =>
 some (v0,())
def Zfe:LB:=lw Tryz.func22 [.l 9] 0 (rt [.o 9]) (u1 El) [] []
def DA:Nat→(List ByteArray)→(List Int)→(List ByteArray)→Int→Option ((List ByteArray×Unit))
 | 0,_,_,_,_=>none
 | n+1,lines,errors,out,i =>
  bif decide (i<(↑errors.length:Int)) then(bif decide (i<(↑lines.length:Int)) then((A4 errors i).bind fun v0 =>
  bif decide (v0=0) then((A4 lines i).bind fun v1 =>
  (app out [v1]).bind fun v2 =>
  DA n lines errors v2 (IntKind.i64.wrap (i+1))) else
  DA n lines errors out (IntKind.i64.wrap (i+1))) else
  some (out,())) else
  some (out,())
def IQ (n:Nat) (lines:List ByteArray) (errors:List Int):Option ((List ByteArray×Unit)) :=
 (DA n lines errors [] 0).bind fun v0 =>
 some (v0.fst,())
def Ze1:CB Tryz.f47:=lp 3 [(0,.l 9),(1,.l 37),(5,.o 9),(6,.s 3)] 0 [⟨.exit 0,[],[(5,.o 9)],[]⟩] (u4 DA) [] []
def ZeW:LB:=lw Tryz.func47 [.l 9,.l 37] 0 (rt [.l 9]) (u2 IQ) [] [Ze1]
def Dy:Nat→(List ByteArray)→(List Int)→(List ByteArray)→Int→Option ((List ByteArray×Unit))
 | 0,_,_,_,_=>none
 | n+1,lines,l,out,i =>
  bif decide (i<(↑l.length:Int)) then((A4 l i).bind fun v0 =>
  bif decide (v0≥0) then((A4 l i).bind fun v1 =>
  bif decide (v1<(↑lines.length:Int)) then((A4 l i).bind fun v2 =>
  (A4 lines v2).bind fun v3 =>
  (app out [v3]).bind fun v4 =>
  Dy n lines l v4 (IntKind.i64.wrap (i+1))) else
  Dy n lines l out (IntKind.i64.wrap (i+1))) else
  Dy n lines l out (IntKind.i64.wrap (i+1))) else
  some (out,())
def Ik (n:Nat) (lines:List ByteArray) (l:List Int):Option ((List ByteArray×Unit)) :=
 (Dy n lines l [] 0).bind fun v0 =>
 some (v0.fst,())
def ZeE:CB Tryz.f50:=lp 3 [(0,.l 9),(1,.l 3),(5,.o 9),(6,.s 3)] 0 [⟨.exit 0,[],[(5,.o 9)],[]⟩] (u4 Dy) [] []
def Zff:LB:=lw Tryz.func50 [.l 9,.l 3] 0 (rt [.l 9]) (u2 Ik) [] [ZeE]
def FR:Nat→(List ByteArray)→Int→Option ((List ByteArray×Unit) ⊕ ((Bool×Unit)))
 | 0,_,_=>none
 | n+1,lines,i =>
  bif decide (i<(↑lines.length:Int)) then((A4 lines i).bind fun v0 =>
  bif decide ((↑v0.size:Int)>200) then(some (.inr (false,()))) else
  FR n lines (IntKind.i64.wrap (i+1))) else
  some (.inl (lines,()))
def IS (n:Nat) (lines:List ByteArray):Option ((Bool×Unit)) :=
 (FR n lines 0).bind fun v0 =>
 Sum.elim (fun v1=>some (decide ((↑v1.fst.length:Int)≤50),())) (fun v1=>some (v1.fst,())) (v0)
def Ze2:CB Tryz.f23:=lp 2 [(0,.l 9),(3,.s 3)] 0 [⟨.exit 0,[],[(0,.l 9)],[]⟩,⟨.ret,[],[(2,.s 4)],[]⟩] (u2 FR) [] []
def ZeX:LB:=(lw Tryz.func23 [.l 9] 0 (rt [.s 4]) (u1 IS) [] [Ze2]).rd
def IT (n:Nat) (lines:List ByteArray):Option ((Bool×Unit)) :=
 (MK n lines).bind fun v0 =>
 bif v0.fst then((IS n lines).bind fun v1 =>
 some (v1.fst,())) else
 some (false,())
def ZeY:LB:=(lw Tryz.func27 [.l 9] 0 (rt [.s 4]) (u1 IT) [Zfm,ZeX] []).rd
def KO (n:Nat):Option ((Aa×Unit)) :=
 some (Aa.mk (Ah.mk [] [] [] [] (Aq.mk 7 [] [] 600 5 3000) []),())
def Ze3:LB:=lw Tryz.func101 [] 0 (rt [.u 114]) (fun n _=>KO n) [] []
def Bc:Nat→Du→CS→CS→(List Ab)→Int→Int→Option ((Du×CS×CS×Unit×Unit×Unit×Unit))
 | 0,_,_,_,_,_,_=>none
 | n+1,s,x2,out,x33,x34,x35 =>
  bif decide (x35<x34) then((A4 x33 x35).bind fun v0 =>
  bif decide (v0.kind.n=0) then(Bc n s x2 (CS.mk out.machine out.fr out.to_ (IntKind.i64.wrap (out.sales-1)) (IntKind.i64.wrap (out.coins-v0.b))) x33 x34 (IntKind.i64.wrap (x35+1))) else
  Bc n s x2 out x33 x34 (IntKind.i64.wrap (x35+1))) else
  some (s,(x2,(out,((),((),((),()))))))
def Bz (n:Nat) (s:Du):Option ((CS×Bool×Unit)) :=
 (Bc n s (CS.mk 0 0 0 0 0) (CS.mk s.to_.machine s.fr.seq s.to_.seq (IntKind.i64.wrap (s.to_.a-s.fr.a)) (IntKind.i64.wrap (s.to_.b-s.fr.b))) s.between (↑s.between.length:Int) 0).bind fun v0 =>
 bif decide (0≤v0.snd.snd.fst.sales) then(bif decide (v0.snd.snd.fst.sales≤IntKind.i64.wrap (IntKind.i64.wrap (IntKind.i64.wrap (v0.fst.to_.seq-v0.fst.fr.seq)-1)-(↑v0.fst.between.length:Int))) then(bif decide (0≤v0.snd.snd.fst.coins) then(some (v0.snd.snd.fst,(decide (v0.snd.snd.fst.coins≤IntKind.i64.wrap (10000*v0.snd.snd.fst.sales)),()))) else
 some (v0.snd.snd.fst,(false,()))) else
 some (v0.snd.snd.fst,(false,()))) else
 some (v0.snd.snd.fst,(false,()))
def ZcW:CB Tryz.f83:=lp 3 [(1,.u 154),(2,.u 98),(4,.u 98),(33,.l 93),(34,.s 3),(35,.s 3)] 3 [⟨.exit 0,[.u 154,.u 98,.u 98],[(1,.q 0),(2,.q 1),(4,.q 2)],[]⟩] (u6 Bc) [] []
def Zds:LB:=(lw Tryz.func83 [.g 154] 0 (rt [.g 98,.s 4]) (u1 Bz) [] [ZcW]).rd
def CD:List (Nat×C):=[(0,.y 0 44 [2,3,5] [.p 0 [.l 98],.p 0 [.s 37],.p 0 [.o 98]]),(1,.p 0 [.l 93]),(3,.p 0 [.s 3,.s 3,.s 3,.s 5,.s 3,.s 3,.s 3,.s 3,.s 3,.s 5,.s 3,.s 3,.o 93]),(6,.l 93),(7,.s 3),(8,.s 3)]
def Fu:List Wo:=[⟨.exit 0,[.y 0 44 [2,3,5] [.p 0 [.l 98],.p 0 [.s 37],.p 0 [.o 98]],.q 1,.q 2,.q 3,.p 0 [.l 93],.p 0 [.s 3,.s 3,.s 3,.s 5,.s 3,.s 3,.s 3,.s 3,.s 3,.s 5,.s 3,.s 3,.o 93]],[],[]⟩,⟨.ret,[.y 1 44 [2,3,5] [.p 0 [.l 98],.p 0 [.s 37],.p 0 [.o 98]],.q 1,.q 2,.q 3,.p 0 [.l 93],.p 0 [.s 3,.s 3,.s 3,.s 5,.s 3,.s 3,.s 3,.s 3,.s 3,.s 5,.s 3,.s 3,.o 93]],[],[]⟩]
def Aw:Nat→(List CS)→Int→(List CS)→(List Ab)→Int→Int→Int→(IK .u8)→Int→Int→Int→Int→Int→(IK .u8)→Int→Int→(List Ab)→(List Ab)→Int→Int→Option ((((List CS×Unit)×(Int×Unit)×(List CS×Unit)×Unit)×Unit×Unit×Unit×(List Ab×Unit)×(Int×Int×Int×IK .u8×Int×Int×Int×Int×Int×IK .u8×Int×Int×List Ab×Unit)×Unit) ⊕ ((((List CS×Unit)×(Int×Unit)×(List CS×Unit)×Unit)×Unit×Unit×Unit×(List Ab×Unit)×(Int×Int×Int×IK .u8×Int×Int×Int×Int×Int×IK .u8×Int×Int×List Ab×Unit)×Unit)))
 | 0,_,_,_,_,_,_,_,_,_,_,_,_,_,_,_,_,_,_,_,_=>none
 | n+1,yield1,yield2,yield3,x1,s1,s2,s3,s4,s5,s6,s7,s8,s9,s10,s11,s12,s13,x6,x7,x8 =>
  bif decide (x8<x7) then((A4 x6 x8).bind fun v0 =>
  bif !decide (x8=0) then((A4 x1 (IntKind.i64.wrap (x8-1))).bind fun v1 =>
  bif v1.machine != v0.machine then(bif v0.kind.n != 2 then(Aw n yield1 yield2 yield3 x1 v0.machine 0 0 (IK.mk 0) 0 0 0 0 0 (IK.mk 0) 0 0 ([].append [v0]) x6 x7 (IntKind.i64.wrap (x8+1))) else
  (Bz n (Du.mk (Ab.mk v0.machine 0 0 (IK.mk 0) 0 0) v0 [])).bind fun v2 =>
  bif !v2.snd.fst then(some (.inr ((([],()),((9,()),((yield3,()),()))),((),((),((),((x1,()),((v0.machine,(0,(0,(IK.mk 0,(0,(0,(v0.machine,(v0.seq,(v0.minute,(v0.kind,(v0.a,(v0.b,([],()))))))))))))),())))))))) else
  bif decide (v2.fst.sales>0) then((app yield3 [v2.fst]).bind fun v3 =>
  Aw n yield1 yield2 v3 x1 v0.machine v0.seq v0.minute v0.kind v0.a v0.b 0 0 0 (IK.mk 0) 0 0 [] x6 x7 (IntKind.i64.wrap (x8+1))) else
  Aw n yield1 yield2 yield3 x1 v0.machine v0.seq v0.minute v0.kind v0.a v0.b 0 0 0 (IK.mk 0) 0 0 [] x6 x7 (IntKind.i64.wrap (x8+1))) else
  bif v0.kind.n != 2 then((app s13 [v0]).bind fun v2 =>
  Aw n yield1 yield2 yield3 x1 s1 s2 s3 s4 s5 s6 s7 s8 s9 s10 s11 s12 v2 x6 x7 (IntKind.i64.wrap (x8+1))) else
  (Bz n (Du.mk (Ab.mk s1 s2 s3 s4 s5 s6) v0 s13)).bind fun v2 =>
  bif !v2.snd.fst then(some (.inr ((([],()),((9,()),((yield3,()),()))),((),((),((),((x1,()),((s1,(s2,(s3,(s4,(s5,(s6,(v0.machine,(v0.seq,(v0.minute,(v0.kind,(v0.a,(v0.b,(s13,()))))))))))))),())))))))) else
  bif decide (v2.fst.sales>0) then((app yield3 [v2.fst]).bind fun v3 =>
  Aw n yield1 yield2 v3 x1 v0.machine v0.seq v0.minute v0.kind v0.a v0.b 0 0 0 (IK.mk 0) 0 0 [] x6 x7 (IntKind.i64.wrap (x8+1))) else
  Aw n yield1 yield2 yield3 x1 v0.machine v0.seq v0.minute v0.kind v0.a v0.b 0 0 0 (IK.mk 0) 0 0 [] x6 x7 (IntKind.i64.wrap (x8+1))) else
  bif v0.kind.n != 2 then(Aw n yield1 yield2 yield3 x1 v0.machine 0 0 (IK.mk 0) 0 0 0 0 0 (IK.mk 0) 0 0 ([].append [v0]) x6 x7 (IntKind.i64.wrap (x8+1))) else
  (Bz n (Du.mk (Ab.mk v0.machine 0 0 (IK.mk 0) 0 0) v0 [])).bind fun v1 =>
  bif !v1.snd.fst then(some (.inr ((([],()),((9,()),((yield3,()),()))),((),((),((),((x1,()),((v0.machine,(0,(0,(IK.mk 0,(0,(0,(v0.machine,(v0.seq,(v0.minute,(v0.kind,(v0.a,(v0.b,([],()))))))))))))),())))))))) else
  bif decide (v1.fst.sales>0) then((app yield3 [v1.fst]).bind fun v2 =>
  Aw n yield1 yield2 v2 x1 v0.machine v0.seq v0.minute v0.kind v0.a v0.b 0 0 0 (IK.mk 0) 0 0 [] x6 x7 (IntKind.i64.wrap (x8+1))) else
  Aw n yield1 yield2 yield3 x1 v0.machine v0.seq v0.minute v0.kind v0.a v0.b 0 0 0 (IK.mk 0) 0 0 [] x6 x7 (IntKind.i64.wrap (x8+1))) else
  some (.inl (((yield1,()),((yield2,()),((yield3,()),()))),((),((),((),((x1,()),((s1,(s2,(s3,(s4,(s5,(s6,(s7,(s8,(s9,(s10,(s11,(s12,(s13,()))))))))))))),())))))))
def DM (n:Nat) (y:C.Ds Ty (A9 CD)):Option (YT Ty Fu):=Aw n y.1.1.1 y.1.2.1.1 y.1.2.2.1.1 y.2.1.1 y.2.2.1.1 y.2.2.1.2.1 y.2.2.1.2.2.1 y.2.2.1.2.2.2.1 y.2.2.1.2.2.2.2.1 y.2.2.1.2.2.2.2.2.1 y.2.2.1.2.2.2.2.2.2.1 y.2.2.1.2.2.2.2.2.2.2.1 y.2.2.1.2.2.2.2.2.2.2.2.1 y.2.2.1.2.2.2.2.2.2.2.2.2.1 y.2.2.1.2.2.2.2.2.2.2.2.2.2.1 y.2.2.1.2.2.2.2.2.2.2.2.2.2.2.1 y.2.2.1.2.2.2.2.2.2.2.2.2.2.2.2.1 y.2.2.2.1 y.2.2.2.2.1 y.2.2.2.2.2.1
def ZbP (n:Nat):St Ty→Tr (Lf Ty):=K4 CD 6 Fu (DM n)
def Ch (n:Nat) (l:List Ab):Option ((List CS×Int×Unit)) :=
 (D7 n [l]).bind fun v0 =>
 bif v0.snd.fst != 0 then(some ([],(v0.snd.fst,()))) else
 (Aw n [] 0 [] v0.fst 0 0 0 (IK.mk 0) 0 0 0 0 0 (IK.mk 0) 0 0 [] v0.fst (↑v0.fst.length:Int) 0).bind fun v1 =>
 Sum.elim (fun v2=>some (v2.fst.snd.snd.fst.fst,(0,()))) (fun v2=>some (v2.fst.fst.fst,(v2.fst.snd.fst.fst,()))) (v1)
def ZbI:List LB:=[Zda,Zds]
def Zdt (n:Nat):EG Ty:=[]
def Zc9 (n:Nat):List (Nat×FQ Ty):=(An,AeO Tryz.prog (BJ Tryz.prog ((Ow ZbI n)) []) (A0 []) (A0 (Zdt n)) 44)::(Ow ZbI n)
theorem Il (n:Nat):JF Tryz.prog (Zc9 n):=⟨Xp Ae Aj (A3 Ae Aj ((Dq ZbI n)) Eu) (fun _ _ _ h=>by cases h) (Ay (fn:=Tryz.f44) (c:=(RFs.rf 44).body) (N:=(RFs.rf 44).n) (L:=Zdt n) (ks:=[]) trivial (by kernel_rfl) (by kernel_rfl)),Dq ZbI n⟩
def ZcJ (n:Nat):EG Ty:=[]
theorem L0 (n:Nat) (x:C.Ds Ty (A9 CD)):(Cv Tryz.prog 48 (BJ Tryz.prog (Zc9 n) []) (A0 (ZcJ n)) (BR 2 Tryz.f135) (Bp CD x)).runK (EE 6 CD Fu (DM n))=DM (n+1) x:=by kernel_rfl
theorem L1 (n:Nat):Bm true Tryz.prog 48 (ZbP n) (.loop (BR 2 Tryz.f135)):=FO fun x y hy=>DR (Fn:=DM) Ae Aj (fun n=>A3 Ae Aj (Il n) Eu) (fun h=>by cases h) (fun h=>by cases h) (fun n=>(Ay (fn:=Tryz.f135) (L:=ZcJ n) (ks:=[]) trivial (by kernel_rfl) (by kernel_rfl))) (by decide) (fun _=>rfl) L0 hy
def Zdu (n:Nat):Je Ty:=[(135,[(.loop 2,ZbP n)])]
theorem ND (n:Nat):Gl Tryz.prog (Zdu n):=⟨DG (f:=135) Tryz.func135 rfl (Ay (fn:=Tryz.f135) (L:=[(.loop 2,ZbP n)]) (ks:=[.loop 2]) ⟨L1 n,trivial⟩ (by kernel_rfl) (by kernel_rfl)),trivial⟩
def Zdb (n:Nat):St Ty→Tr (Lf Ty):=Aeu Tryz.prog (BJ Tryz.prog (Zc9 n) (Zdu n)) (.tmp 19) 44 [2,3,5]
theorem ML (n:Nat):Bm true Tryz.prog 36 (Zdb n) (DT (.rf 7) Tryz.f44):=Xs (A3 Ae Aj (Il n) (ND n)) (by kernel_rfl) (by kernel_rfl)
def ZeF:LB:=lw Tryz.func44 [.l 93] 0 (rt [.l 98,.s 37]) (u1 Ch) ZbI [⟨.rf 7,fun n=>Zdb n,fun n=>ML n⟩]
def Fv:List (Nat×C):=[(0,.l 9)]
def Hc:List Wo:=[⟨.ret,[],[],[.u 114,.l 37]⟩]
def C0:Nat→Aa→(List Int)→(List ByteArray)→Int→Int→Option ((Aa×Unit×List Int×Unit))
 | 0,_,_,_,_,_=>none
 | n+1,g,errors,x12,x13,x14 =>
  bif decide (x14<x13) then((A4 x12 x14).bind fun v0 =>
  (Ace n g v0).bind fun v1 =>
  (app errors [v1.snd.fst]).bind fun v2 =>
  C0 n v1.fst v2 x12 x13 (IntKind.i64.wrap (x14+1))) else
  some (g,((),(errors,())))
def Em (n:Nat) (lines:List ByteArray):Option ((Aa×List Int×Unit)) :=
 (KO n).bind fun v0 =>
 (C0 n v0.fst [] lines (↑lines.length:Int) 0).bind fun v1 =>
 some (v1.fst,(v1.snd.snd.fst,()))
def JX (n:Nat) (y:C.Ds Ty (A9 Fv)):Option (YT Ty Hc):=Em n y.1
def ZcX (n:Nat):FQ Ty:=AbN (ET Fv 0 Hc (JX n))
def Zfz:LB:=⟨84,ZeN,Wn⟩
def ZcA:List LB:=[Ze3,Zfz]
def fgarage_play_l1_b:CB Tryz.f53:=lp 5 [(4,.u 114),(5,.f 84 [.q 0] []),(6,.o 37),(12,.l 9),(13,.s 3),(14,.s 3)] 1 [⟨.exit 0,[.u 114],[(4,.q 0),(6,.o 37)],[]⟩] (fun n y=>C0 n y.1 y.2.2.1 y.2.2.2.1 y.2.2.2.2.1 y.2.2.2.2.2.1) ZcA []
def Zdv (n:Nat):EG Ty:=[(.loop 5,(fgarage_play_l1_b.F n))]
theorem OE (n:Nat) (x:C.Ds Ty (A9 Fv)):(Cv Tryz.prog 27 (BJ Tryz.prog ((Ow ZcA n)) []) (A0 (Zdv n)) (Bs Tryz.f53) (Bp Fv x)).runK (Gj Tryz.prog Tryz.f53.results.toList 0 Hc)=JX n x:=by kernel_rfl
theorem L2 (n:Nat):AX Tryz.prog 53 (ZcX n):=AbO (by decide) (H7 Tryz.func53 rfl rfl (by decide) rfl Ae Aj (A3 Ae Aj ((Dq ZcA n)) Eu) (Ay (fn:=Tryz.f53) (L:=Zdv n) (ks:=[.loop 5]) ⟨fgarage_play_l1_b.ok n,trivial⟩ (by kernel_rfl) (by kernel_rfl)) (OE n))
def En (n:Nat) (lines:List ByteArray):Option ((Ah×List Int×Int×Unit)) :=
 (CL n lines).bind fun v0 =>
 bif v0.fst != 0 then(some (Ah.mk [] [] [] [] (Aq.mk 0 [] [] 0 0 0) [],([],(v0.fst,())))) else
 (Em n lines).bind fun v1 =>
 some (v1.fst.state,(v1.snd.fst,(0,())))
def ZcB:LB:=⟨53,ZcX,L2⟩
def Zdw:LB:=lw Tryz.func21 [.l 9] 0 (rt [.g 35,.l 37,.s 37]) (u1 En) [ZbR,ZcB] []
def Fw (n:Nat) (text:ByteArray) (x1:Aa):Option (((Aa×Unit)×Unit×Bool×Unit)) :=
 (NB n text (B [32])).bind fun v0 =>
 (A4 v0.fst 0).bind fun v1 =>
 bif !v1.beq (B [111,117,116]) then(some ((x1,()),((),(false,())))) else
 (A4 v0.fst 1).bind fun v2 =>
 (KJ v2).bind fun v3 =>
 Sum.elim (fun v4=>(A4 v0.fst 2).bind fun v5 =>
 (KJ v5).bind fun v6 =>
 Sum.elim (fun v7=>(Cx n x1.state.cards v4 v7).bind fun v8 =>
 some ((x1,()),((),(decide ((↑v8.fst.length:Int)>0),())))) (fun v7=>(Cx n x1.state.cards v4 v7).bind fun v8 =>
 some ((x1,()),((),(decide ((↑v8.fst.length:Int)>0),())))) (v6)) (fun v4=>(A4 v0.fst 2).bind fun v5 =>
 (KJ v5).bind fun v6 =>
 Sum.elim (fun v7=>(Cx n x1.state.cards v4 v7).bind fun v8 =>
 some ((x1,()),((),(decide ((↑v8.fst.length:Int)>0),())))) (fun v7=>(Cx n x1.state.cards v4 v7).bind fun v8 =>
 some ((x1,()),((),(decide ((↑v8.fst.length:Int)>0),())))) (v6)) (v3)
def Zft:LB:=⟨112,Zd1,MB⟩
def Zeo:LB:=lw Tryz.func111 [.s 9,.p 0 [.u 114]] 2 [⟨.ret,[.p 0 [.u 114],.q 1],[],[.s 4]⟩] (fun n y=>Fw n y.1 y.2.1.1) [Zft,Zfg,Zdd] []
def BS:Nat→(List Int)→(List Int)→Aa→(List ByteArray)→Int→Int→Option (((Aa×Unit)×Unit×List Int×Unit))
 | 0,_,_,_,_,_,_=>none
 | n+1,errors,out,is,x11,x12,x13 =>
  bif decide (x13<x12) then((A4 x11 x13).bind fun v0 =>
  (A4 errors x13).bind fun v1 =>
  bif decide (v1=0) then((Fw n v0 is).bind fun v2 =>
  bif v2.snd.snd.fst then((app out [x13]).bind fun v3 =>
  BS n errors v3 v2.fst.fst x11 x12 (IntKind.i64.wrap (x13+1))) else
  BS n errors out v2.fst.fst x11 x12 (IntKind.i64.wrap (x13+1))) else
  BS n errors out is x11 x12 (IntKind.i64.wrap (x13+1))) else
  some ((is,()),((),(out,())))
def Dz (n:Nat) (lines:List ByteArray) (g:Aa) (errors:List Int):Option ((Aa×List Int×Unit)) :=
 (BS n errors [] g lines (↑lines.length:Int) 0).bind fun v0 =>
 some (v0.fst.fst,(v0.snd.snd.fst,()))
def Zdx:List LB:=[Zeo]
def Zee:CB Tryz.f70:=lp 3 [(2,.l 37),(6,.o 3),(7,.f 111 [] [.p 0 [.u 114]]),(11,.l 9),(12,.s 3),(13,.s 3)] 2 [⟨.exit 0,[.p 0 [.u 114],.q 1],[(6,.o 3)],[]⟩] (fun n y=>BS n y.1 y.2.1 y.2.2.1.2.1.1 y.2.2.2.1 y.2.2.2.2.1 y.2.2.2.2.2.1) Zdx []
def Zdy:LB:=lw Tryz.func70 [.l 9,.u 114,.l 37] 1 [⟨.ret,[.u 114],[],[.o 3]⟩] (u3 Dz) Zdx [Zee]
def Eo (n:Nat) (lines:List ByteArray):Option ((List Int×Int×Unit)) :=
 (CL n lines).bind fun v0 =>
 bif v0.fst != 0 then(some ([],(v0.fst,()))) else
 (Em n lines).bind fun v1 =>
 (Dz n lines v1.fst v1.snd.fst).bind fun v2 =>
 some (v2.snd.fst,(0,()))
def Zdz:LB:=lw Tryz.func31 [.l 9] 0 (rt [.l 3,.s 37]) (u1 Eo) [ZbR,ZcB,Zdy] []
def BP:List (Nat×C):=[(0,.u 114),(1,.s 3)]
def Dl:List Wo:=[⟨.ret,[.u 114],[],[.s 4]⟩]
def Bl:Nat→(List Ap)→Int→Int→Int→Option (((Int×Unit)×Unit) ⊕ (((Int×Unit)×Int×Unit)))
 | 0,_,_,_,_=>none
 | n+1,s,f,x7,x8 =>
  bif decide (x8<x7) then((A4 s x8).bind fun v0 =>
  bif decide (v0.bus=f) then(some (.inr ((f,()),(x8,())))) else
  Bl n s f x7 (IntKind.i64.wrap (x8+1))) else
  some (.inl ((f,()),()))
def B4 (n:Nat) (g:Aa) (bus:Int):Option ((Aa×Bool×Unit)) :=
 (AQ n g bus).bind fun v0 =>
 bif !decide (v0.snd.snd.fst>0) then((R8 n v0.fst bus).bind fun v1 =>
 bif !decide (v1.snd.fst≥0) then((Bl n v1.fst.state.cards bus (↑v1.fst.state.cards.length:Int) 0).bind fun v2 =>
 Sum.elim (fun v3=>some (v1.fst,(decide (-1≥0),()))) (fun v3=>some (v1.fst,(decide (v3.snd.fst≥0),()))) (v2)) else
 some (v1.fst,(true,()))) else
 some (v0.fst,(true,()))
def ER (n:Nat) (y:C.Ds Ty (A9 BP)):Option (YT Ty Dl):=B4 n y.1 y.2.1
def ZbS (n:Nat):FQ Ty:=ET BP 1 Dl (ER n)
def ZbB:List LB:=[ZbY,Zeu]
def fgarage_session_known_i1_b:CB Tryz.f210:=lp 2 [(0,.l 180),(1,.f 153 [] [.p 0 [.s 3]]),(7,.s 3),(8,.s 3)] 1 [⟨.exit 0,[.p 0 [.s 3]],[],[]⟩,⟨.ret,[.p 0 [.s 3]],[(4,.s 3)],[]⟩] (fun n y=>Bl n y.1 y.2.1.2.1.1 y.2.2.1 y.2.2.2.1) ZbB []
def ZbW (n:Nat):Je Ty:=[(210,[(.loop 2,(fgarage_session_known_i1_b.F n))])]
theorem Hd (n:Nat):Gl Tryz.prog (ZbW n):=⟨DG (f:=210) Tryz.func210 rfl (Ay (fn:=Tryz.f210) (L:=[(.loop 2,(fgarage_session_known_i1_b.F n))]) (ks:=[.loop 2]) ⟨fgarage_session_known_i1_b.ok n,trivial⟩ (by kernel_rfl) (by kernel_rfl)),trivial⟩
def ZbZ (n:Nat):EG Ty:=[]
theorem HE (n:Nat) (x:C.Ds Ty (A9 BP)):(Cv Tryz.prog 32 (BJ Tryz.prog ((Ow ZbB n)) (ZbW n)) (A0 (ZbZ n)) (Bs Tryz.f93) (Bp BP x)).runK (Gj Tryz.prog Tryz.f93.results.toList 1 Dl)=ER n x:=by kernel_rfl
theorem G1 (n:Nat):AX Tryz.prog 93 (ZbS n):=H7 Tryz.func93 rfl rfl (by decide) rfl Ae Aj (A3 Ae Aj ((Dq ZbB n)) (Hd n)) (Ay (fn:=Tryz.f93) (L:=ZbZ n) (ks:=[]) trivial (by kernel_rfl) (by kernel_rfl)) (HE n)
def Fx (n:Nat) (n_:Int) (many:Int):Option ((ByteArray×Unit)) :=
 (B3 n n_).bind fun v0 =>
 (Yv n (B [48]) (if IntKind.i64.wrap (many-(↑v0.fst.size:Int))>0 then IntKind.i64.wrap (many-(↑v0.fst.size:Int)) else 0)).bind fun v1 =>
 (Bf v1.fst v0.fst).bind fun v2 =>
 some (v2,())
def Zfr:LB:=⟨244,Zej,R7⟩
def Zep:LB:=lw Tryz.func181 [.s 3,.s 3] 0 (rt [.s 9]) (u2 Fx) [Ze8,Zfr] []
def Fy:Nat→ByteArray→Int→(List (IK .u8))→Int→Int→Option ((ByteArray×Int×Unit))
 | 0,_,_,_,_,_=>none
 | n+1,s,check,x12,x13,x14 =>
  bif decide (x14<x13) then((A4 x12 x14).bind fun v0 =>
  Fy n s (IntKind.i64.wrap (check+IntKind.i64.wrap (IntKind.i64.wrap (x14+1)*IntKind.i64.wrap (IntKind.i64.wrap v0.n+1)))) x12 x13 (IntKind.i64.wrap (x14+1))) else
  some (s,(check,()))
def JY (n:Nat) (s:ByteArray) (index:Int):Option ((ByteArray×Unit)) :=
 (Fy n s (IntKind.i64.wrap (7*IntKind.i64.wrap (index+1))) (FY s) (↑(FY s).length:Int) 0).bind fun v0 =>
 (Fx n (↑v0.fst.size:Int) 3).bind fun v1 =>
 (Bf (B [91]) v1.fst).bind fun v2 =>
 (Bf v2 (B [47])).bind fun v3 =>
 (Fx n (IntKind.i64.wrap (999-(↑v0.fst.size:Int))) 3).bind fun v4 =>
 (Bf v3 v4.fst).bind fun v5 =>
 (Bf v5 (B [47])).bind fun v6 =>
 (Fx n (v0.snd.fst.tmod 99991) 5).bind fun v7 =>
 (Bf v6 v7.fst).bind fun v8 =>
 (Bf v8 (B [93])).bind fun v9 =>
 (Bf v9 v0.fst).bind fun v10 =>
 (Bf v10 (B [10])).bind fun v11 =>
 some (v11,())
def ZcY:List LB:=[Zep]
def ZdD:CB Tryz.f125:=lp 3 [(0,.s 9),(5,.s 3),(12,.l 5),(13,.s 3),(14,.s 3)] 0 [⟨.exit 0,[],[(0,.s 9),(5,.s 3)],[]⟩] (u5 Fy) ZcY []
def Zeq:LB:=lw Tryz.func125 [.s 9,.s 3] 0 (rt [.s 9]) (u2 JY) ZcY [ZdD]
def EI:Nat→(List (IK .u8))→(List ByteArray)→Int→Int→Option ((List (IK .u8)×Unit))
 | 0,_,_,_,_=>none
 | n+1,out,x5,x6,x7 =>
  bif decide (x7<x6) then((A4 x5 x7).bind fun v0 =>
  (JY n v0 x7).bind fun v1 =>
  (app out (FY v1.fst)).bind fun v2 =>
  EI n v2 x5 x6 (IntKind.i64.wrap (x7+1))) else
  some (out,())
def Jb (n:Nat) (lines:List ByteArray):Option ((List (IK .u8)×Unit)) :=
 (EI n [] lines (↑lines.length:Int) 0).bind fun v0 =>
 some (v0.fst,())
def ZcK:List LB:=[Zeq]
def Zd5:CB Tryz.f78:=lp 2 [(2,.o 5),(5,.l 9),(6,.s 3),(7,.s 3)] 0 [⟨.exit 0,[],[(2,.o 5)],[]⟩] (u4 EI) ZcK []
def Zef:LB:=lw Tryz.func78 [.l 9] 0 (rt [.l 5]) (u1 Jb) ZcK [Zd5]
def KP (n:Nat) (lines:List ByteArray):Option ((List (IK .u8)×Int×Unit)) :=
 (CL n lines).bind fun v0 =>
 bif v0.fst != 0 then(some ([],(v0.fst,()))) else
 (Jb n lines).bind fun v1 =>
 some (v1.fst,(0,()))
def Ze4:LB:=lw Tryz.func37 [.l 9] 0 (rt [.l 5,.s 37]) (u1 KP) [ZbR,Zef] []
def DN:Nat→Int→(List (IK .u8))→Int→Int→Option ((Int×Unit) ⊕ ((Int×Unit)))
 | 0,_,_,_,_=>none
 | n+1,n_,x6,x7,x8 =>
  bif decide (x8<x7) then((A4 x6 x8).bind fun v0 =>
  bif !decide (v0.n<48) then(bif decide (v0.n>57) then(some (.inr (-1,()))) else
  DN n (IntKind.i64.wrap (IntKind.i64.wrap (10*n_)+IntKind.i64.wrap (IntKind.u8.wrap (v0.n-48)))) x6 x7 (IntKind.i64.wrap (x8+1))) else
  some (.inr (-1,()))) else
  some (.inl (n_,()))
def JZ (n:Nat) (l:List (IK .u8)):Option ((Int×Unit)) :=
 (DN n 0 l (↑l.length:Int) 0).bind fun v0 =>
 Sum.elim (fun v1=>some (v1.fst,())) (fun v1=>some (v1.fst,())) (v0)
def L3 (n:Nat):Option ((List ByteArray×Unit)) :=
 some ([B [102,111,117,110,100,32,55,32,49,32,49,48,48,32,51],B [111,117,116,32,55,32,49,53,48],B [111,117,116,32,56,32,49,53,48],B [105,110,32,56,32,50,48,48,32,51,48],B [115,105,103,110,101,100,32,55,32,50,32,49,54,48,32,49],B [111,117,116,32,55,32,49,55,48],B [104,101,108,100,32,56,32,51,32,49,52,48,32,50],B [111,117,116,32,56,32,51,48,48],B [115,97,108,101,32,53,32,50,32,49,53,32,49,32,51,48,48],B [99,108,111,115,101,32,53,32,52,32,51,48,32,50,32,53,48,48],B [100,114,105,118,101,114,32,49,32,45,57,48,48],B [100,117,116,121,32,48,32,51,48,48,32,57,48,48,32,49,48,48,48,32,49],B [100,117,116,121,32,49,32,49,48,48,32,53,48,48,32,53,48,48,32,49],B [103,105,118,101,32,48,32,48],B [103,105,118,101,32,49,32,48],B [105,110,32,55,32,49,54,53,32,53]],())
def ZeZ:LB:=lw Tryz.func51 [] 0 (rt [.o 9]) (fun n _=>L3 n) [] []
def He (n:Nat):Option ((Bool×Unit)) :=
 (L3 n).bind fun v0 =>
 (En n v0.fst).bind fun v1 =>
 (L3 n).bind fun v2 =>
 (Eo n v2.fst).bind fun v3 =>
 (KP n [B [97]]).bind fun v4 =>
 bif !v1.snd.snd.fst != 0 then(bif !v3.snd.fst != 0 then(bif !v4.snd.fst != 0 then(bif (↑v1.snd.fst.length:Int) != 16 then(some (false,())) else
 (A4 v1.snd.fst 1).bind fun v5 =>
 bif decide (v5=11) then((A4 v1.snd.fst 7).bind fun v6 =>
 bif decide (v6=11) then((A4 v1.snd.fst 14).bind fun v7 =>
 bif decide (v7=10) then((A4 v1.snd.fst 15).bind fun v8 =>
 bif decide (v8=2) then(bif decide ((↑v1.fst.runs.length:Int)=1) then((A4 v1.fst.runs 0).bind fun v9 =>
 bif decide (v9.bus=8) && (decide (v9.fr=150) && (decide (v9.to_=200) && (decide (v9.miles=30) && true))) then(bif decide ((↑v1.fst.outs.length:Int)=1) then((A4 v1.fst.outs 0).bind fun v10 =>
 bif decide (v10.bus=7) && (decide (v10.fr=170) && true) then((Cz n v1.fst.roster [0,-1]).bind fun v11 =>
 bif v11.fst then((Cz n v3.fst [2]).bind fun v12 =>
 bif v12.fst then(some ((QO v4.fst).beq (B [91,48,48,49,47,57,57,56,47,48,48,49,48,53,93,97,10]),())) else
 some (false,())) else
 some (false,())) else
 some (false,())) else
 some (false,())) else
 some (false,())) else
 some (false,())) else
 some (false,())) else
 some (false,())) else
 some (false,())) else
 some (false,())) else
 some (false,())) else
 some (false,())) else
 some (false,())
def Zfa:LB:=lw Tryz.func20 [] 0 (rt [.s 4]) (fun n _=>He n) [ZeZ,Zdw,Zdz,Ze4,Zdg] []
def IU (n:Nat) (a:Ah) (b:Ah):Option ((Bool×Unit)) :=
 (IM n a.cards b.cards).bind fun v0 =>
 bif v0.fst then((Kv n a.outs b.outs).bind fun v1 =>
 bif v1.fst then((Kw n a.runs b.runs).bind fun v2 =>
 bif v2.fst then((G0 n a.records b.records).bind fun v3 =>
 bif v3.fst then((IN n a.week b.week).bind fun v4 =>
 bif v4.fst then((Cz n a.roster b.roster).bind fun v5 =>
 some (v5.fst,())) else
 some (false,())) else
 some (false,())) else
 some (false,())) else
 some (false,())) else
 some (false,())
def Zfb:LB:=lw Tryz.func24 [.g 35,.g 35] 0 (rt [.s 4]) (u2 IU) [ZeT,Zfc,Zfd,ZeC,ZeU,Zdg] []
def B0:List (Nat×C):=[(0,.l 9),(5,.u 114),(6,.l 37),(7,.p 163 [.q 1,.o 5]),(8,.f 89 [] []),(9,.f 90 [] [.q 1]),(38,.s 3)]
def E2:List Wo:=[⟨.exit 0,[.u 114,.p 163 [.z,.o 5]],[(0,.l 9),(5,.q 0),(6,.l 37),(7,.q 1),(8,.f 89 [] []),(9,.f 90 [] [.q 1])],[]⟩,⟨.exit 0,[.u 114,.p 163 [.q 1,.o 5]],[(0,.l 9),(5,.q 0),(6,.l 37),(7,.q 1),(8,.f 89 [] []),(9,.f 90 [] [.q 1])],[]⟩]
def Ca:List (Nat×C):=[(0,.l 9),(5,.u 114),(6,.l 37),(7,.p 163 [.z,.o 5]),(8,.f 89 [] []),(9,.f 90 [] [.q 1]),(38,.s 3)]
def E3:List Wo:=[⟨.exit 0,[.u 114,.p 163 [.z,.o 5]],[(0,.l 9),(5,.q 0),(6,.l 37),(7,.q 1),(8,.f 89 [] []),(9,.f 90 [] [.q 1])],[]⟩,⟨.exit 0,[.u 114,.p 163 [.q 1,.o 5]],[(0,.l 9),(5,.q 0),(6,.l 37),(7,.q 1),(8,.f 89 [] []),(9,.f 90 [] [.q 1])],[]⟩]
def AE:Nat→(List ByteArray)→Aa→(List Int)→(List (IK .u8))→Int→Option ((Aa×(Unit×List (IK .u8)×Unit)×List ByteArray×Unit×List Int×Unit×(Unit×Unit)×(Unit×(Unit×Unit))×Unit) ⊕ ((Aa×(Unit×List (IK .u8)×Unit)×List ByteArray×Unit×List Int×Unit×(Unit×Unit)×(Unit×(Unit×Unit))×Unit)))
 | 0,_,_,_,_,_=>none
 | n+1,lines,g,errors,out,x38 =>
  bif decide (x38<100) then((B4 n g x38).bind fun v0 =>
  bif !v0.snd.fst then(AE n lines v0.fst errors out (IntKind.i64.wrap (x38+1))) else
  (AQ n v0.fst x38).bind fun v1 =>
  (Cx n v1.fst.state.cards x38 1000000).bind fun v2 =>
  (B3 n x38).bind fun v3 =>
  (B3 n v1.snd.fst).bind fun v4 =>
  (B3 n (↑v2.fst.length:Int)).bind fun v5 =>
  (R8 n v1.fst x38).bind fun v6 =>
  bif decide (v6.snd.fst≥0) then((Ep n ([B [98,117,115],v3.fst,B [109,105,108,101,115],v4.fst,B [111,112,101,110],v5.fst].append [B [111,117,116]]) (B [32])).bind fun v7 =>
  (Bf v7.fst (B [10])).bind fun v8 =>
  (app out (FY v8)).bind fun v9 =>
  AE n lines v6.fst errors v9 (IntKind.i64.wrap (x38+1))) else
  (Ep n [B [98,117,115],v3.fst,B [109,105,108,101,115],v4.fst,B [111,112,101,110],v5.fst] (B [32])).bind fun v7 =>
  (Bf v7.fst (B [10])).bind fun v8 =>
  (app out (FY v8)).bind fun v9 =>
  AE n lines v6.fst errors v9 (IntKind.i64.wrap (x38+1))) else
  some (.inr (g,(((),(out,())),(lines,((),(errors,((),(((),()),(((),((),())),())))))))))
def B1 (n:Nat) (y:C.Ds Ty (A9 B0)):Option (YT Ty E2):=AE n y.1 y.2.1 y.2.2.1 y.2.2.2.1.2.1 y.2.2.2.2.2.2.1
def Zcr (n:Nat):St Ty→Tr (Lf Ty):=K4 B0 2 E2 (B1 n)
def Bx:Nat→(List ByteArray)→Aa→(List Int)→(List (IK .u8))→Int→Option ((Aa×(Unit×List (IK .u8)×Unit)×List ByteArray×Unit×List Int×Unit×(Unit×Unit)×(Unit×(Unit×Unit))×Unit) ⊕ ((Aa×(Unit×List (IK .u8)×Unit)×List ByteArray×Unit×List Int×Unit×(Unit×Unit)×(Unit×(Unit×Unit))×Unit)))
 | 0,_,_,_,_,_=>none
 | n+1,lines,g,errors,out,x38 =>
  bif decide (x38<100) then((B4 n g x38).bind fun v0 =>
  bif !v0.snd.fst then(Bx n lines v0.fst errors out (IntKind.i64.wrap (x38+1))) else
  (AQ n v0.fst x38).bind fun v1 =>
  (Cx n v1.fst.state.cards x38 1000000).bind fun v2 =>
  (B3 n x38).bind fun v3 =>
  (B3 n v1.snd.fst).bind fun v4 =>
  (B3 n (↑v2.fst.length:Int)).bind fun v5 =>
  (R8 n v1.fst x38).bind fun v6 =>
  bif decide (v6.snd.fst≥0) then((Ep n ([B [98,117,115],v3.fst,B [109,105,108,101,115],v4.fst,B [111,112,101,110],v5.fst].append [B [111,117,116]]) (B [32])).bind fun v7 =>
  (Bf v7.fst (B [10])).bind fun v8 =>
  (app out (FY v8)).bind fun v9 =>
  AE n lines v6.fst errors v9 (IntKind.i64.wrap (x38+1))) else
  (Ep n [B [98,117,115],v3.fst,B [109,105,108,101,115],v4.fst,B [111,112,101,110],v5.fst] (B [32])).bind fun v7 =>
  (Bf v7.fst (B [10])).bind fun v8 =>
  (app out (FY v8)).bind fun v9 =>
  AE n lines v6.fst errors v9 (IntKind.i64.wrap (x38+1))) else
  some (.inl (g,(((),(out,())),(lines,((),(errors,((),(((),()),(((),((),())),())))))))))
def De (n:Nat) (y:C.Ds Ty (A9 Ca)):Option (YT Ty E3):=Bx n y.1 y.2.1 y.2.2.1 y.2.2.2.1.2.1 y.2.2.2.2.2.2.1
def Zcs (n:Nat):St Ty→Tr (Lf Ty):=K4 Ca 2 E3 (De n)
def AS:Nat→Aa→(List (IK .u8))→Int→Int→(List Ab)→Int→Int→Option ((Aa×(Unit×List (IK .u8)×Unit)×Unit×Unit×(Unit×Unit)×(Unit×(Unit×Unit))×Int×Int×Unit))
 | 0,_,_,_,_,_,_,_=>none
 | n+1,g,out,sales,coins,x97,x98,x99 =>
  bif decide (x99<x98) then((A4 x97 x99).bind fun v0 =>
  bif decide (v0.kind.n=0) then(AS n g out (IntKind.i64.wrap (sales+1)) (IntKind.i64.wrap (coins+v0.b)) x97 x98 (IntKind.i64.wrap (x99+1))) else
  AS n g out sales coins x97 x98 (IntKind.i64.wrap (x99+1))) else
  some (g,(((),(out,())),((),((),(((),()),(((),((),())),(sales,(coins,()))))))))
def By:Nat→Aa→(List (IK .u8))→Int→Int→Int→(List CS)→Int→Int→Option ((Aa×(Unit×List (IK .u8)×Unit)×Unit×Unit×(Unit×Unit)×(Unit×(Unit×Unit))×Int×Int×Int×Unit))
 | 0,_,_,_,_,_,_,_,_=>none
 | n+1,g,out,sales,coins,e,x131,x132,x133 =>
  bif decide (x133<x132) then((A4 x131 x133).bind fun v0 =>
  By n g out (IntKind.i64.wrap (sales+v0.sales)) (IntKind.i64.wrap (coins+v0.coins)) e x131 x132 (IntKind.i64.wrap (x133+1))) else
  some (g,(((),(out,())),((),((),(((),()),(((),((),())),(sales,(coins,(e,())))))))))
def A6:Nat→Aa→(List (IK .u8))→Int→(List Int)→Int→Int→Option ((Aa×(Unit×List (IK .u8)×Unit)×Unit×Unit×(Unit×Unit)×(Unit×(Unit×Unit))×Int×Unit))
 | 0,_,_,_,_,_,_=>none
 | n+1,g,out,given,x164,x165,x166 =>
  bif decide (x166<x165) then((A4 x164 x166).bind fun v0 =>
  bif v0 != -1 then(A6 n g out (IntKind.i64.wrap (given+1)) x164 x165 (IntKind.i64.wrap (x166+1))) else
  A6 n g out given x164 x165 (IntKind.i64.wrap (x166+1))) else
  some (g,(((),(out,())),((),((),(((),()),(((),((),())),(given,())))))))
def DZ (n:Nat) (lines:List ByteArray):Option ((ByteArray×Int×Unit)) :=
 (CL n lines).bind fun v0 =>
 bif v0.fst != 0 then(some (B [],(v0.fst,()))) else
 (Em n lines).bind fun v1 =>
 (Bx n lines v1.fst v1.snd.fst [] 0).bind fun v2 =>
 Sum.elim (fun v3=>(Dz n v3.snd.snd.fst v3.fst v3.snd.snd.snd.snd.fst).bind fun v4 =>
 (B3 n (↑v4.snd.fst.length:Int)).bind fun v5 =>
 (Ep n [B [108,97,116,101],v5.fst] (B [32])).bind fun v6 =>
 (Bf v6.fst (B [10])).bind fun v7 =>
 (app v3.snd.fst.snd.fst (FY v7)).bind fun v8 =>
 (AS n v4.fst v8 0 0 v4.fst.state.records (↑v4.fst.state.records.length:Int) 0).bind fun v9 =>
 (B3 n v9.snd.snd.snd.snd.snd.snd.fst).bind fun v10 =>
 (B3 n v9.snd.snd.snd.snd.snd.snd.snd.fst).bind fun v11 =>
 (Ep n [B [115,97,108,101,115],v10.fst,B [99,111,105,110,115],v11.fst] (B [32])).bind fun v12 =>
 (Bf v12.fst (B [10])).bind fun v13 =>
 (app v9.snd.fst.snd.fst (FY v13)).bind fun v14 =>
 (Ch n v9.fst.state.records).bind fun v15 =>
 (By n v9.fst v14 0 0 v15.snd.fst v15.fst (↑v15.fst.length:Int) 0).bind fun v16 =>
 bif decide (v16.snd.snd.snd.snd.snd.snd.snd.snd.fst=0) then((B3 n v16.snd.snd.snd.snd.snd.snd.fst).bind fun v17 =>
 (B3 n v16.snd.snd.snd.snd.snd.snd.snd.fst).bind fun v18 =>
 (Ep n [B [108,97,99,107],v17.fst,B [99,111,105,110,115],v18.fst] (B [32])).bind fun v19 =>
 (Bf v19.fst (B [10])).bind fun v20 =>
 (app v16.snd.fst.snd.fst (FY v20)).bind fun v21 =>
 (A6 n v16.fst v21 0 v16.fst.state.roster (↑v16.fst.state.roster.length:Int) 0).bind fun v22 =>
 (B3 n v22.snd.snd.snd.snd.snd.snd.fst).bind fun v23 =>
 (B3 n (↑v22.fst.state.roster.length:Int)).bind fun v24 =>
 (Ep n [B [100,117,116,105,101,115],v23.fst,B [111,102],v24.fst] (B [32])).bind fun v25 =>
 (Bf v25.fst (B [10])).bind fun v26 =>
 (app v22.snd.fst.snd.fst (FY v26)).bind fun v27 =>
 (KM v27).bind fun v28 =>
 some (v28,(0,()))) else
 (Ep n [B [108,97,99,107],B [117,110,107,110,111,119,110]] (B [32])).bind fun v17 =>
 (Bf v17.fst (B [10])).bind fun v18 =>
 (app v16.snd.fst.snd.fst (FY v18)).bind fun v19 =>
 (A6 n v16.fst v19 0 v16.fst.state.roster (↑v16.fst.state.roster.length:Int) 0).bind fun v20 =>
 (B3 n v20.snd.snd.snd.snd.snd.snd.fst).bind fun v21 =>
 (B3 n (↑v20.fst.state.roster.length:Int)).bind fun v22 =>
 (Ep n [B [100,117,116,105,101,115],v21.fst,B [111,102],v22.fst] (B [32])).bind fun v23 =>
 (Bf v23.fst (B [10])).bind fun v24 =>
 (app v20.snd.fst.snd.fst (FY v24)).bind fun v25 =>
 (KM v25).bind fun v26 =>
 some (v26,(0,()))) (fun v3=>(Dz n v3.snd.snd.fst v3.fst v3.snd.snd.snd.snd.fst).bind fun v4 =>
 (B3 n (↑v4.snd.fst.length:Int)).bind fun v5 =>
 (Ep n [B [108,97,116,101],v5.fst] (B [32])).bind fun v6 =>
 (Bf v6.fst (B [10])).bind fun v7 =>
 (app v3.snd.fst.snd.fst (FY v7)).bind fun v8 =>
 (AS n v4.fst v8 0 0 v4.fst.state.records (↑v4.fst.state.records.length:Int) 0).bind fun v9 =>
 (B3 n v9.snd.snd.snd.snd.snd.snd.fst).bind fun v10 =>
 (B3 n v9.snd.snd.snd.snd.snd.snd.snd.fst).bind fun v11 =>
 (Ep n [B [115,97,108,101,115],v10.fst,B [99,111,105,110,115],v11.fst] (B [32])).bind fun v12 =>
 (Bf v12.fst (B [10])).bind fun v13 =>
 (app v9.snd.fst.snd.fst (FY v13)).bind fun v14 =>
 (Ch n v9.fst.state.records).bind fun v15 =>
 (By n v9.fst v14 0 0 v15.snd.fst v15.fst (↑v15.fst.length:Int) 0).bind fun v16 =>
 bif decide (v16.snd.snd.snd.snd.snd.snd.snd.snd.fst=0) then((B3 n v16.snd.snd.snd.snd.snd.snd.fst).bind fun v17 =>
 (B3 n v16.snd.snd.snd.snd.snd.snd.snd.fst).bind fun v18 =>
 (Ep n [B [108,97,99,107],v17.fst,B [99,111,105,110,115],v18.fst] (B [32])).bind fun v19 =>
 (Bf v19.fst (B [10])).bind fun v20 =>
 (app v16.snd.fst.snd.fst (FY v20)).bind fun v21 =>
 (A6 n v16.fst v21 0 v16.fst.state.roster (↑v16.fst.state.roster.length:Int) 0).bind fun v22 =>
 (B3 n v22.snd.snd.snd.snd.snd.snd.fst).bind fun v23 =>
 (B3 n (↑v22.fst.state.roster.length:Int)).bind fun v24 =>
 (Ep n [B [100,117,116,105,101,115],v23.fst,B [111,102],v24.fst] (B [32])).bind fun v25 =>
 (Bf v25.fst (B [10])).bind fun v26 =>
 (app v22.snd.fst.snd.fst (FY v26)).bind fun v27 =>
 (KM v27).bind fun v28 =>
 some (v28,(0,()))) else
 (Ep n [B [108,97,99,107],B [117,110,107,110,111,119,110]] (B [32])).bind fun v17 =>
 (Bf v17.fst (B [10])).bind fun v18 =>
 (app v16.snd.fst.snd.fst (FY v18)).bind fun v19 =>
 (A6 n v16.fst v19 0 v16.fst.state.roster (↑v16.fst.state.roster.length:Int) 0).bind fun v20 =>
 (B3 n v20.snd.snd.snd.snd.snd.snd.fst).bind fun v21 =>
 (B3 n (↑v20.fst.state.roster.length:Int)).bind fun v22 =>
 (Ep n [B [100,117,116,105,101,115],v21.fst,B [111,102],v22.fst] (B [32])).bind fun v23 =>
 (Bf v23.fst (B [10])).bind fun v24 =>
 (app v20.snd.fst.snd.fst (FY v24)).bind fun v25 =>
 (KM v25).bind fun v26 =>
 some (v26,(0,()))) (v2)
def Zf0:LB:=⟨92,ZeL,Wh⟩
def Zf1:LB:=⟨151,ZdK,Wi⟩
def ZcZ:LB:=⟨93,ZbS,G1⟩
def Zf2:LB:=⟨95,ZdL,Wj⟩
def Zb0:List LB:=[ZbR,ZcB,Ze8,Zf0,Zf1,ZcZ,ZbY,Zdd,Zeu,Zdy,ZeF,Zf2]
def ZbQ (n:Nat):EG Ty:=[]
theorem Gc (n:Nat) (x:C.Ds Ty (A9 B0)):(Cv Tryz.prog 190 (BJ Tryz.prog ((Ow Zb0 n)) []) (A0 (ZbQ n)) (BR 9 Tryz.f48) (Bp B0 x)).runK (EE 2 B0 E2 (B1 n))=B1 (n+1) x:=by kernel_rfl
theorem Ka (n:Nat):Bm true Tryz.prog 190 (Zcr n) (.loop (BR 9 Tryz.f48)):=FO fun x y hy=>DR (Fn:=B1) Ae Aj (fun n=>A3 Ae Aj ((Dq Zb0 n)) Eu) (fun h=>by cases h) (fun h=>by cases h) (fun n=>(Ay (fn:=Tryz.f48) (L:=ZbQ n) (ks:=[]) trivial (by kernel_rfl) (by kernel_rfl))) (by decide) (fun _=>rfl) Gc hy
def Zc8 (n:Nat):EG Ty:=[]
theorem Kb (n:Nat) (x:C.Ds Ty (A9 Ca)):(Cv Tryz.prog 190 (BJ Tryz.prog ((Ow Zb0 n)) []) (A0 (Zc8 n)) (BR 9 Tryz.f48) (Bp Ca x)).runK (TW 2 Ca B0 E3 (De n) (B1 n))=De (n+1) x:=by kernel_rfl
theorem Kc (n:Nat):Bm true Tryz.prog 190 (Zcs n) (.loop (BR 9 Tryz.f48)):=FO fun x y hy=>Z6 (Fn:=De) (F2:=B1) Ae Aj (fun n=>A3 Ae Aj ((Dq Zb0 n)) Eu) (fun n=>A3 Ae Aj ((Dq Zb0 n)) Eu) (fun h=>by cases h) (fun h=>by cases h) (fun h=>by cases h) (fun n=>(Ay (fn:=Tryz.f48) (L:=Zc8 n) (ks:=[]) trivial (by kernel_rfl) (by kernel_rfl))) (fun n=>(Ay (fn:=Tryz.f48) (L:=ZbQ n) (ks:=[]) trivial (by kernel_rfl) (by kernel_rfl))) (by decide) (fun _=>rfl) (fun _=>rfl) Kb Gc hy
def ZdE:CB Tryz.f48:=lp 22 [(5,.u 114),(7,.p 163 [.q 1,.o 5]),(8,.f 89 [] []),(9,.f 90 [] [.q 1]),(16,.s 3),(17,.s 3),(97,.l 93),(98,.s 3),(99,.s 3)] 2 [⟨.exit 2,[.u 114,.p 163 [.q 1,.o 5]],[(5,.q 0),(7,.q 1),(8,.f 89 [] []),(9,.f 90 [] [.q 1]),(16,.s 3),(17,.s 3)],[]⟩] (fun n y=>AS n y.1 y.2.1.2.1 y.2.2.2.2.1 y.2.2.2.2.2.1 y.2.2.2.2.2.2.1 y.2.2.2.2.2.2.2.1 y.2.2.2.2.2.2.2.2.1) Zb0 []
def ZdF:CB Tryz.f48:=lp 32 [(5,.u 114),(7,.p 163 [.q 1,.o 5]),(8,.f 89 [] []),(9,.f 90 [] [.q 1]),(16,.s 3),(17,.s 3),(21,.s 3),(131,.l 98),(132,.s 3),(133,.s 3)] 2 [⟨.exit 4,[.u 114,.p 163 [.q 1,.o 5]],[(5,.q 0),(7,.q 1),(8,.f 89 [] []),(9,.f 90 [] [.q 1]),(16,.s 3),(17,.s 3),(21,.s 3)],[]⟩] (fun n y=>By n y.1 y.2.1.2.1 y.2.2.2.2.1 y.2.2.2.2.2.1 y.2.2.2.2.2.2.1 y.2.2.2.2.2.2.2.1 y.2.2.2.2.2.2.2.2.1 y.2.2.2.2.2.2.2.2.2.1) Zb0 []
def ZdG:CB Tryz.f48:=lp 42 [(5,.u 114),(7,.p 163 [.q 1,.o 5]),(8,.f 89 [] []),(9,.f 90 [] [.q 1]),(24,.s 3),(164,.l 3),(165,.s 3),(166,.s 3)] 2 [⟨.exit 6,[.u 114,.p 163 [.q 1,.o 5]],[(5,.q 0),(7,.q 1),(8,.f 89 [] []),(9,.f 90 [] [.q 1]),(24,.s 3)],[]⟩] (fun n y=>A6 n y.1 y.2.1.2.1 y.2.2.2.2.1 y.2.2.2.2.2.1 y.2.2.2.2.2.2.1 y.2.2.2.2.2.2.2.1) Zb0 []
def Zer:LB:=(lw Tryz.func48 [.l 9] 0 (rt [.s 9,.s 37]) (u1 DZ) Zb0 [⟨.loop 9,fun n=>AbA (Zcr n) (Zcs n),fun n=>Yl (Ka n) (Kc n)⟩,ZdE,ZdF,ZdG]).rd
def CE:List (Nat×C):=[(0,.l 9)]
def Ea:List Wo:=[⟨.ret,[],[],[.s 4]⟩]
def B5:Nat→(List Int)→Int→Option (Unit ⊕ ((Bool×Unit)))
 | 0,_,_=>none
 | n+1,clean,n_ =>
  bif decide (n_<(↑clean.length:Int)) then((A4 clean n_).bind fun v0 =>
  bif v0 != 0 then(some (.inr (false,()))) else
  B5 n clean (IntKind.i64.wrap (n_+1))) else
  some (.inl ())
def D0 (n:Nat) (lines:List ByteArray):Option ((Bool×Unit)) :=
 (IT n lines).bind fun v0 =>
 bif !v0.fst then((He n).bind fun v1 =>
 some (v1.fst,())) else
 (El n lines).bind fun v1 =>
 (En n v1.fst).bind fun v2 =>
 (IQ n lines v2.snd.fst).bind fun v3 =>
 (El n v3.fst).bind fun v4 =>
 (En n v4.fst).bind fun v5 =>
 (El n lines).bind fun v6 =>
 (DZ n v6.fst).bind fun v7 =>
 (El n v3.fst).bind fun v8 =>
 (DZ n v8.fst).bind fun v9 =>
 (El n lines).bind fun v10 =>
 (Eo n v10.fst).bind fun v11 =>
 (El n v3.fst).bind fun v12 =>
 (Eo n v12.fst).bind fun v13 =>
 bif !v2.snd.snd.fst != 0 then(bif !v5.snd.snd.fst != 0 then(bif !v7.snd.fst != 0 then(bif !v9.snd.fst != 0 then(bif !v11.snd.fst != 0 then(bif !v13.snd.fst != 0 then(bif !(↑v2.snd.fst.length:Int) != (↑lines.length:Int) then(bif !(↑v5.snd.fst.length:Int) != (↑v3.fst.length:Int) then((IU n v2.fst v5.fst).bind fun v14 =>
 bif !!v14.fst then(bif !!v7.fst.beq v9.fst then(bif !(↑v11.fst.length:Int) != (↑v13.fst.length:Int) then((Ik n lines v11.fst).bind fun v15 =>
 (Ik n v3.fst v13.fst).bind fun v16 =>
 (IP n v15.fst v16.fst).bind fun v17 =>
 bif !v17.fst then(some (false,())) else
 (B5 n v5.snd.fst 0).bind fun v18 =>
 Sum.elim (fun v19=>(He n).bind fun v20 =>
 some (v20.fst,())) (fun v19=>some (v19.fst,())) (v18)) else
 some (false,())) else
 some (false,())) else
 some (false,())) else
 some (false,())) else
 some (false,())) else
 some (false,())) else
 some (false,())) else
 some (false,())) else
 some (false,())) else
 some (false,())) else
 some (false,())
def Gd (n:Nat) (y:C.Ds Ty (A9 CE)):Option (YT Ty Ea):=D0 n y.1
def Zci (n:Nat):FQ Ty:=QA (ET CE 0 Ea (Gd n))
def ZbM:List LB:=[ZeY,Zfa,Zfe,Zdw,ZeW,Zer,Zdz,Zfb,Zff,ZeV]
def flaw_GarageReplays_l1_b:CB Tryz.f17:=lp 13 [(8,.l 37),(18,.s 3)] 0 [⟨.exit 0,[],[],[]⟩,⟨.ret,[],[(2,.s 4)],[]⟩] (u2 B5) ZbM []
def Zc2 (n:Nat):EG Ty:=[(.loop 13,(flaw_GarageReplays_l1_b.F n))]
theorem Ji (n:Nat) (x:C.Ds Ty (A9 CE)):(Cv Tryz.prog 140 (BJ Tryz.prog ((Ow ZbM n)) []) (A0 (Zc2 n)) (Bs Tryz.f17) (Bp CE x)).runK (Gj Tryz.prog Tryz.f17.results.toList 0 Ea)=Gd n x:=by kernel_rfl
theorem HF (n:Nat):AX Tryz.prog 17 (Zci n):=JK (H7 Tryz.func17 rfl rfl (by decide) rfl Ae Aj (A3 Ae Aj ((Dq ZbM n)) Eu) (Ay (fn:=Tryz.f17) (L:=Zc2 n) (ks:=[.loop 13]) ⟨flaw_GarageReplays_l1_b.ok n,trivial⟩ (by kernel_rfl) (by kernel_rfl)) (Ji n))
theorem Aci (k:Nat):He (k+60)=some (true,()):=by kernel_rfl
end
end Go.Proofs.YtkpgggfibljflaaGreatDoor
