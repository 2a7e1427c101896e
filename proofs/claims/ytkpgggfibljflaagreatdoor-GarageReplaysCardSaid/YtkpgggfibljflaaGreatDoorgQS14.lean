/- What a proof leans on: a machine that steps through code, and what functions compute. -/
import Derived.Test.YtkpgggfibljflaaGreatDoorgQS13
import Derived.Shelf.RegionOpenPlain
import Derived.Deep.LoopGhost
import Derived.Deep.RegionLaw
import Derived.Lib.Walk
import Derived.Lib.SliceRun
set_option linter.all false
set_option maxRecDepth 100000
namespace Go.Proofs.YtkpgggfibljflaaGreatDoor
open Go Go.RowKit Go.Proofs Go.Shelf
open Rep (rep)
theorem GW (b:Nat):∀ (vs:List Value)(o:Nat)(w:World),w.grownBy (w.setCells b o vs) (some b)
 | [],_,w=>⟨rfl,rfl,rfl,Zal _,fun _ _ _=>rfl⟩
 | v::r,o,w=>(H9 w ⟨b,o,none⟩ v).trans (GW b r (o+1) _)
theorem HA {b:Nat} {T:TypeId}:∀ (vs pre mid post:List Value)(w:World)(o:Nat),o=pre.length→mid.length=vs.length→w.heap[b]? = some (.cells (pre++mid++post).toArray T (0,0))→(w.setCells b o vs).heap[b]? = some (.cells (pre++vs++post).toArray T (0,0))
 | [],pre,mid,post,w,o,_,hl,h=>by
  have:mid=[]:=Za3 hl
  subst this
  exact h
 | v::r,pre,[],post,w,o,_,hl,h=>by simp at hl
 | v::r,pre,m::mid,post,w,o,ho,hl,h=>by
  have h2:(w.setCell ⟨b,o,none⟩ v).heap[b]? = some (.cells ((pre++[v])++mid++post).toArray T (0,0)):=by
   unfold World.setCell
   simp only [Zbb,h,if_true,Option.map_some]
   congr 2
   subst ho
   simp
  have:=HA r (pre++[v]) mid post (w.setCell ⟨b,o,none⟩ v) (o+1) (by simp [ho]) (by simpa using hl) h2
  simpa [World.setCells] using this
theorem X5 (w:World) (ty:TypeId) (b o n c:Nat) (hn:0<n)
  (hc:∀ j,j<n*2→(w.cell? ⟨b,o+j,none⟩).isSome=true) (hf:∀ j,j<n*2→w.frozen? ⟨b,o+j,none⟩=false) :
  ∃ zs:List Value,zs.length=n*2∧(Builtin.clear_ #[26] ty #[.slice (some ⟨b,o,none⟩) n c]).run Tryz.prog w=.ok (.tuple #[]) (w.setCells b o zs):=by
 have hv:∀ w,(zeroValue 60).run Tryz.prog w=.ok (.agg #[.int .i64 0,.int .i64 0]) w:=Tryz.zeroValue60
 have hl:(Builtin.zeroCells #[.int .i64 0,.int .i64 0] n).toList.length=n*2:=by simp [Builtin.zeroCells]
 have ho:∀ v∈(Builtin.zeroCells #[.int .i64 0,.int .i64 0] n).toList,v.oneCell' = true:=by
  intro v hv
  simp [Builtin.zeroCells] at hv
  obtain⟨a,_,rfl⟩:=hv
  rcases Nat.mod_two_eq_zero_or_one a with h | h <;> rw [h] <;> rfl
 have hst:=run_storeCells_cells (P:=Tryz.prog) b o (Builtin.zeroCells #[.int .i64 0,.int .i64 0] n).toList 0 w (by rw [hl]; simpa using hc) (by rw [hl]; simpa using hf) ho
 simp only [Nat.add_zero] at hst
 refine⟨_,hl,?_⟩
 obtain⟨m,rfl⟩:∃ m,n=m+1:=⟨n-1,by omega⟩
 have hc0:(Value.agg #[.int .i64 0,.int .i64 0]).cells=#[.int .i64 0,.int .i64 0]:=rfl
 simp [Builtin.clear_,run_underlying Tryz.underlying26,hv,hc0,hst]
set_option maxHeartbeats 2000000 in
theorem ZJ (b n cap i j:Nat) (us sp:List Value) (w:World) (hb:w.heap[b]? = some (.cells (us++sp).toArray 60 (0,0))) (hus:us.length=n*2) (hcap:(us++sp).length=cap*2) (hone:∀ u∈us,u.oneCell' = true) (hnc:n≤cap) (hm:cap≤9223372036854775807) (hij:i<j) (hj:j≤n) :
  Calls Tryz.prog 261 #[.slice (some ⟨b,0,none⟩) n cap,.int .i64 i,.int .i64 j] w fun e w'=>e=.returned (.slice (some ⟨b,0,none⟩) (n-(j-i)) cap)∧w.grownBy w' (some b) ∧
   ∃ sp',w'.heap[b]? = some (.cells (us.take (i*2)++us.drop (j*2)++sp').toArray 60 (0,0))∧(us.take (i*2)++us.drop (j*2)++sp').length=cap*2:=by
 obtain⟨ii,zv,e1,e2,e3,e4,e5,e6⟩:=Md (P:=Tryz.prog) (E:=60) (sz:=2) (bytes:=16) (by kernel_rfl)
 have hcell:∀ t,t<(us++sp).length→w.cell? ⟨b,t,none⟩=(us++sp)[t]?:=fun t ht=>by
  simp only [World.cell?,hb]
  simp
 have hfr:∀ t,w.frozen? ⟨b,t,none⟩=false:=fun t=>by simp [World.frozen?,hb]
 have hsl:us.length≤(us++sp).length:=by simp
 obtain⟨news,hnews⟩:∃ news,news=us.drop (j*2):=⟨_,rfl⟩
 have hlen:news.length=(n-j)*2:=by rw [hnews]; simp; omega
 obtain⟨A,hA,hsrc⟩:∃ A:Addr,(if cap=j then some (⟨b,0,none⟩:Addr) else some ⟨b,j*2,none⟩)=some A∧Hid (∀ t u,news[t]? = some u→w.drew.cell? (A.add t)=some u):=by
  by_cases h:cap=j
  · refine⟨⟨b,0,none⟩,by simp [h],fun t u hu=>?_⟩
    have h0:news.length=0:=by rw [hlen]; omega
    rw [List.length_eq_zero_iff.1 h0] at hu
    simp at hu
  · refine⟨⟨b,j*2,none⟩,by simp [h],fun t u hu=>?_⟩
    have ht:t<(n-j)*2:=by
     have:=(Zaq.1 hu).1
     rwa [hlen] at this
    rw [hnews,List.getElem?_drop] at hu
    rw [Addr.add_lit]
    show w.cell? _=_
    rw [hcell _ (by omega),Zau (by omega)]
    exact hu
 have s1:Hid (news.length=(n-j)*2):=hlen
 have s2:Hid (∀ u∈news,u.oneCell' = true):=fun u hu=>hone u (by rw [hnews] at hu; exact List.mem_of_mem_drop hu)
 have s3:Hid (∀ t,t<news.length→(w.drew.cell? ⟨b,0+i*2+t,none⟩).isSome=true∧w.drew.frozen? ⟨b,0+i*2+t,none⟩=false):=by
  intro t ht
  rw [hlen] at ht
  refine⟨?_,hfr _⟩
  show(w.cell? _).isSome=true
  rw [hcell _ (by omega),Zao (by omega)]
  rfl
 obtain⟨W1,hW1⟩:∃ W1,W1=w.drew.setCells b (0+i*2) news:=⟨_,rfl⟩
 have hpm:us=us.take (i*2)++((us.drop (i*2)).take news.length++(us.drop (i*2)).drop news.length):=by rw [Zba,Zba]
 have hW1b:W1.heap[b]? = some (.cells (us.take (i*2)++news++((us.drop (i*2)).drop news.length++sp)).toArray 60 (0,0)):=by
  rw [hW1]
  refine HA news (us.take (i*2)) ((us.drop (i*2)).take news.length) ((us.drop (i*2)).drop news.length++sp) w.drew _ (by simp; omega) (by simp; omega) ?_
  show w.heap[b]? = _
  rw [hb]
  congr 2
  conv=>lhs; rw [hpm]
  simp only [ZaC]
 have hW1g:w.grownBy W1 (some b):=by
  rw [hW1]
  have:=GW b news (0+i*2) w.drew
  exact⟨this.os,this.tape,this.output,this.size,this.block⟩
 obtain⟨rest,hrest⟩:∃ rest,rest=(us.drop (i*2)).drop news.length:=⟨_,rfl⟩
 rw [← hrest] at hW1b
 have hrl:rest.length=(j-i)*2:=by rw [hrest]; simp; omega
 have hW1c:∀ t,t<(us++sp).length→(W1.cell? ⟨b,t,none⟩).isSome=true:=fun t ht=>by
  simp only [World.cell?,hW1b]
  simp
  simp at ht
  omega
 have hW1f:∀ t,W1.frozen? ⟨b,t,none⟩=false:=fun t=>by simp [World.frozen?,hW1b]
 obtain⟨zs,hz1,hz2⟩:=X5 W1 0 b ((i+(n-j))*2) (n-(i+(n-j))) (cap-(i+(n-j))) (by omega) (fun t ht=>hW1c _ (by omega)) (fun t _=>hW1f _)
 have hcl:∀ ty,(Builtin.clear_ #[26] ty #[.slice (some ⟨b,(i+(n-j))*2,none⟩) (n-(i+(n-j))) (cap-(i+(n-j)))]).run Tryz.prog W1=.ok (.tuple #[]) (W1.setCells b ((i+(n-j))*2) zs):=fun ty=>hz2
 have hfin:(W1.setCells b ((i+(n-j))*2) zs).heap[b]? = some (.cells (us.take (i*2)++us.drop (j*2)++(zs++sp)).toArray 60 (0,0)):=by
  have:=HA (T:=60) zs (us.take (i*2)++news) rest sp W1 ((i+(n-j))*2) (by simp [hlen]; omega) (by rw [hz1,hrl]; omega) (by rw [hW1b]; simp)
  rw [this,hnews]
  simp
 have X:Aside (w.grownBy (W1.setCells b ((i+(n-j))*2) zs) (some b)∧∃ sp',(W1.setCells b ((i+(n-j))*2) zs).heap[b]? = some (.cells (us.take (i*2)++us.drop (j*2)++sp').toArray 60 (0,0))∧(us.take (i*2)++us.drop (j*2)++sp').length=cap*2) :=
  ⟨hW1g.trans (GW b zs _ W1),zs++sp,hfin,by simp [hz1] at hcap ⊢; omega⟩
 have hW:Hid (W1=w.drew.setCells b (0+i*2) news):=hW1
 have hic:i≤cap:=by omega
 have hjc:j≤cap:=by omega
 clear hW1 hz2 hfin hW1b hW1c hW1f hW1g hnews hpm hcell hfr hb hus hcap hone hrest hrl hlen hz1
 have mixed:Tryz.prog.follows Departure.mixedOrders=true:=Aj
 go_enter Tryz.func261,Tryz.ntmps261
 go_wp2_with fail
 go_region_law_o (refine step_append_room rfl (.tmp 22) (.tmp 25) 26 rfl 60 ii 2 Tryz.underlying26 e1 e3 b 0 i cap (by simp [Act.eval,Act.put]) A (n-j) (cap-j) news (by simp [Act.eval,Act.put]) s1.out hsrc.out s2.out (by omega) s3.out ?_; rw [← hW.out])
 go_wp2
 go_ret
 exact⟨by rw [show n-(j-i)=i+(n-j) by omega]; rfl,X.out⟩
def Re:List (Nat×C):=[(0,.o 60),(1,.s 3),(2,.s 3)]
def AbX:List Wo:=[⟨.ret,[],[],[.o 60]⟩]
def Ub (n:Nat) (l:List Jk) (i j:Int):Option (List Jk×Unit):=match i,j with
 | .ofNat i,.ofNat j=>bif Nat.blt i j && Nat.ble j (AZ l) then some (l.take i++l.drop j,()) else none
 | _,_=>none
noncomputable def Zet (n:Nat):FQ Ty:=ET Re 0 AbX fun y=>Ub n y.1 y.2.1 y.2.2.1
theorem Ly {T:Type} [Rep T] {h:Ad}:∀ {l:List T} {us:List Value} (i:Nat),Ar h l us→Ar h (l.take i) (us.take (i*Rep.sz T))∧Ar h (l.drop i) (us.drop (i*Rep.sz T))
 | l,us,0,hc=>by rw [Nat.zero_mul]; exact⟨rfl,hc⟩
 | [],us,i+1,hc=>by
  have hu:us=[]:=hc
  subst hu
  rw [List.take_nil,List.take_nil,List.drop_nil,List.drop_nil]
  exact⟨rfl,rfl⟩
 | x::l,us,i+1,⟨c1,c2,e,h1,h2⟩=>by
  have hl:=Rep.len h1
  obtain⟨q1,q2⟩:=Ly i h2
  subst e
  have e1:(i+1)*Rep.sz T=c1.length+i*Rep.sz T:=by rw [hl,Zbc]; omega
  rw [e1,List.take_length_add_append,List.drop_length_add_append]
  exact⟨⟨c1,_,rfl,h1,q1⟩,q2⟩
theorem Uc (n:Nat):AX Tryz.prog 261 (Zet n):=HY rfl fun x y hy F h g w vals R hm hin hd fin=>by
 obtain⟨l,i,j,⟨⟩⟩:=x
 change List Jk at l
 change Int at i j
 cases i with
 | negSucc i=>cases hy
 | ofNat i =>
  cases j with
  | negSucc j=>cases hy
  | ofNat j =>
   change (bif Nat.blt i j && Nat.ble j (AZ l) then some (l.take i++l.drop j,()) else none)=some y at hy
   cases hb:(Nat.blt i j && Nat.ble j (AZ l)) with
   | false=>rw [hb] at hy; cases hy
   | true =>
    rw [hb,Zac] at hy
    obtain⟨b1,b2⟩:=Ao hb
    rw [A5] at b2
    have b1:i<j:=by simpa using b1
    have b2:j≤l.length:=Zaf b2
    change V.dens g h [.hdr 60 1000,.int .i64 (Int.ofNat i),.int .i64 (Int.ofNat j)] vals at hd
    have hrow:AL.get (Bp (Ty:=Ty) Re (show C.Ds Ty (A9 Re) from((l:List Jk),(Int.ofNat i:Int),(Int.ofNat j:Int),()))).s 1000=some (.row 60 l):=rfl
    have hcell:=hm.cell 1000 _ hrow
    have hown:=hm.own 1000 _ hrow
    obtain⟨hlen,hc⟩:=hcell
    unfold V.dens at hd
    obtain⟨u,r0,e0,hu,hd0⟩:=hd
    obtain⟨v1,e1,hd1⟩:=D5 hd0
    obtain⟨v2,e2,hd2⟩:=D5 hd1
    rw [e0,e1,e2,C4 hd2]
    unfold V.den at hu
    cases hn:(g 1000).nl with
    | true=>rw [hn,if_pos rfl] at hc; omega
    | false =>
     rw [hn,if_neg (by simp)] at hu hc
     obtain⟨us,sp,q1,q2,q3,q4,q5⟩:=hc
     obtain⟨o1,o2,o3,o4⟩:=hown hn
     rw [hu,← hlen]
     have hsz:Rep.sz (Ty 60)=2:=rfl
     have hul:=q2.len
     rw [hsz] at hul q3
     refine(ZJ (g 1000).b l.length (g 1000).c i j us sp w q1 hul q3 q2.one (by omega) (by unfold maxLen at q5; omega) b1 b2).mono ?_
     rintro e w' ⟨rfl,p1,sp',p2,p3⟩
     have hm1:=(hm.less (M':=fun _=>none) (fun i c hi=>by cases hi)).setFree p1 o1 o3 o4 (fun j d hj _=>by cases hj)
     have hm2:=hm1.agree (g':=F5 g 2000 ⟨(g 1000).b,l.length-(j-i),(g 1000).c,false⟩) (p:=fun _=>false) (fun i hi=>by cases hi) (fun i c hi=>by cases hi)
     have hcl:Ar h (l.take i++l.drop j) (us.take (i*2)++us.drop (j*2)):=by
      have t1:=(Ly i q2).1
      have t2:=(Ly j q2).2
      rw [hsz] at t1 t2
      exact t1.append t2
     have hm3:=hm2.newC (i:=2000) (c:=.row 60 (l.take i++l.drop j)) rfl
      (by
       rw [BA]
       refine⟨by simp; omega,?_⟩
       exact⟨us.take (i*2)++us.drop (j*2),sp',p2,hcl,p3,by show l.length-(j-i)≤(g 1000).c; omega,q5⟩)
      (fun _=>by
       rw [BA]
       exact⟨o1,Zai o2 p1.size,o3,o4,fun j d hj=>by cases hj⟩)
     refine fin F h (F5 g 2000 ⟨(g 1000).b,l.length-(j-i),(g 1000).c,false⟩) w' ⟨[],[(2000,.row 60 (l.take i++l.drop j))],2001⟩ false [.hdr 60 2000] [.slice (some ⟨(g 1000).b,0,none⟩) (l.length-(j-i)) (g 1000).c] rfl (FD.refl F []) (Ad.le_refl h) (fun i hi=>by unfold F5; rw [if_neg (by have:i<2000:=hi; omega)]) (by show 2000≤2001; omega) (hm3.less fun i0 c hi=>?_) ?_ ?_ (HZ ?_) rfl
     · have hi2:(bif Nat.beq 2000 i0 then some (A7.row 60 (l.take i++l.drop j)) else none)=some c:=hi
       cases hbb:Nat.beq 2000 i0 with
       | false=>rw [hbb] at hi2; cases hi2
       | true =>
        have hq:=Zab hbb
        rw [hbb] at hi2
        rw [← hq]
        exact hi2
     · intro i0 c hi
       have hi2:(bif Nat.beq 2000 i0 then some (A7.row 60 (l.take i++l.drop j)) else none)=some c:=hi
       cases hbb:Nat.beq 2000 i0 with
       | false=>rw [hbb] at hi2; cases hi2
       | true =>
        have hq:=Zab hbb
        rw [hbb] at hi2
        cases hi2
        rw [← hq]
        exact⟨rfl,rfl⟩
     · rw [← hy]; kernel_rfl
     · unfold V.den
       rw [BA]; rfl
end Go.Proofs.YtkpgggfibljflaaGreatDoor
