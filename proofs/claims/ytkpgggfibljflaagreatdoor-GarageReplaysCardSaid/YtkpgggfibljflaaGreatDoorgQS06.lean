/- What a proof leans on: a machine that steps through code, and what functions compute. -/
import Derived.Test.YtkpgggfibljflaaGreatDoorgQS05
import Derived.Laws.BytesString
import Derived.Lib.ConvBytes
import Derived.Scope
set_option linter.all false
namespace Go.Proofs.YtkpgggfibljflaaGreatDoor
open Go Go.RowKit
open Rep (rep)
open Go.ChangeMaps (setBlock)
section
variable {Ty:Nat→Type} [rT:∀ k,Rep (Ty k)] [RFs] [UM Ty] [UML Ty] {P:Program} {F:Fr} {h:Ad} {g:GE} {M:Mo Ty} {w w':World} {s:Az Ty} {base:Nat}
variable {K:Act→World→Prop} {Q:Exit→Act→World→Prop} {t:Array Value} {d:List Deferred} {m:List (Nat×V Ty)} {o:Oper}
theorem Ag.newSettled {us:List Value} (hm:Ag F h g M w) (hg:w.grownBy w' none) (hlt:w.heap.size<w'.heap.size) (hone:∀ u∈us,u.oneCell' = true) (hc:∀ o u,us[o]? = some u→w'.cell? ⟨w.heap.size,o,none⟩=some u) :
  ∃ h',Ad.le h h'∧Ag F h' g M w'∧∀ o u,us[o]? = some u→h' w.heap.size o=some u:=by
 have hm2:=hm.grow hg
 have hno:∀ o,h w.heap.size o=none:=fun o=>by
  cases hx:h w.heap.size o with
  | none=>rfl
  | some x=>have:=hm.lt hx; omega
 have hle:Ad.le h (fun b o=>if b=w.heap.size then us[o]? else h b o):=fun b o v hv=>by
  have hne:b≠w.heap.size:=fun hh=>by rw [hh,hno o] at hv; cases hv
  simp only [hne,if_false]; exact hv
 refine⟨fun b o=>if b=w.heap.size then us[o]? else h b o,hle,⟨hm2.below,Ad.le_trans hm2.le hle,?_,?_,fun i c hi=>(hm2.cell i c hi).mono hle,?_,hm2.inj,?_,hm2.glo⟩,fun o u hu=>by simp [hu]⟩
 · intro b o x hx
   replace hx:(if b=w.heap.size then us[o]? else h b o)=some x:=hx
   split at hx
   · rename_i hh; exact .inr (by rw [hh]; exact hm.size)
   · exact hm2.old b o x hx
 · intro b o v hv
   replace hv:(if b=w.heap.size then us[o]? else h b o)=some v:=hv
   split at hv
   · rename_i hh
     rw [hh]
     exact⟨hlt,G6 (hc o v hv) (Dt (hone v (Za4 hv)))⟩
   · exact hm2.has b o v hv
 · intro i c hi hn
   obtain⟨h1,h2,h3,h4⟩:=hm2.own i c hi hn
   refine⟨h1,h2,h3,fun o=>?_⟩
   have:=(hm.own i c hi hn).2.1
   show(if (g i).b=w.heap.size then us[o]? else h (g i).b o)=none
   rw [if_neg (by omega)]; exact h4 o
 · intro b x hx
   obtain⟨h1,h2,h3⟩:=hm2.ext b x hx
   refine⟨h1,h2,fun o=>?_⟩
   have:=(Zag.1 (hm.ext b x hx).2.1).1
   show(if b=w.heap.size then us[o]? else h b o)=none
   rw [if_neg (by omega)]; exact h3 o
variable [UV Ty] [UL Ty]
theorem PV {x:V Ty} {u:Value} (hx:x.den g h u):∃ us,V.dens g h x.kcells us∧(if x.aggB=true then u=.agg us.toArray else us=[u]):=by
 cases x
 case agg cs =>
  unfold V.den at hx
  obtain⟨us,e,h1⟩:=hx
  exact⟨us,h1,e⟩
 all_goals
  refine⟨[u],?_,rfl⟩
  show V.dens g h [_] [u]
  unfold V.dens V.dens
  exact⟨u,[],rfl,hx,rfl⟩
theorem Sp {k:Nat} {kx:V Ty} {u:Value} {kk:Ty k} (hk:UM.isK Ty k=true) (hx:kx.den g h u) (ha:(bif UM.ag Ty k then kx.aggB else !kx.aggB)=true) (hp:UV.pack k kx.kcells=some kk):u=UM.kv k kk:=by
 obtain⟨us,h1,h2⟩:=PV hx
 have hr:=UL.pack_rep g h k _ _ _ hp h1
 have hv:=UML.kv_rep k h kk us hk hr
 cases hag:UM.ag Ty k with
 | true =>
  rw [hag] at ha
  rw [if_pos hag] at hv
  rw [if_pos (by simpa using ha)] at h2
  rw [h2,hv]
 | false =>
  rw [hag] at ha
  rw [if_neg (by rw [hag]; simp)] at hv
  have:kx.aggB=false:=by simpa using ha
  rw [this,if_neg (by simp)] at h2
  rw [h2] at hv
  simpa using hv
theorem Zs {v:Nat} {vx:V Ty} {u:Value} {vv:Ty v} (hx:vx.den g h u) (ha:(bif UM.ag Ty v then vx.aggB else !vx.aggB)=true) (hp:UV.pack v vx.kcells=some vv) : @VRep.rv (Ty v) (Ru Ty v) h vv u:=by
 obtain⟨us,h1,h2⟩:=PV hx
 have hr:=UL.pack_rep g h v _ _ _ hp h1
 show if UM.ag Ty v=true then ∃ us,u=.agg us.toArray∧rep h vv us else rep h vv [u]
 cases hag:UM.ag Ty v with
 | true =>
  rw [hag] at ha
  rw [if_pos (by simpa using ha)] at h2
  rw [if_pos rfl]
  exact⟨us,h2,hr⟩
 | false =>
  rw [hag] at ha
  have:vx.aggB=false:=by simpa using ha
  rw [this,if_neg (by simp)] at h2
  rw [if_neg (by simp),← h2]
  exact hr
theorem Sq {v:Nat} {x:Ty v} {u:Value} (hu : @VRep.rv (Ty v) (Ru Ty v) h x u):(Sh v x).den g h u:=by
 replace hu:if UM.ag Ty v=true then ∃ us,u=.agg us.toArray∧rep h x us else rep h x [u]:=hu
 unfold Sh
 cases hag:UM.ag Ty v with
 | true =>
  rw [if_pos hag] at hu
  obtain⟨us,e,hr⟩:=hu
  show(V.agg (UV.view v x)).den g h u
  unfold V.den
  exact⟨us,e,UL.view_den g h v x us hr⟩
 | false =>
  rw [if_neg (by rw [hag]; simp)] at hu
  have hd:=UL.view_den g h v x [u] hu
  have hl:=V.dens_len hd
  rw [Zad]
  split
  · rename_i y hy
    rw [hy] at hd
    unfold V.dens at hd
    obtain⟨u',us',e,h1,_⟩:=hd
    cases e
    exact h1
  · rename_i hne
    exfalso
    match hv:UV.view v x,hl with
    | [y],_=>exact hne y hv
omit [RFs] [UML Ty] in
theorem Vw {p:Nat→Bool} {v:Nat} {x:Ty v}:(Sh v x).okB p=true:=by
 have ho:=UL.view_ok p v x
 unfold Sh
 cases UM.ag Ty v with
 | true=>exact ho
 | false =>
  rw [Zad]
  split
  · rename_i y hy
    rw [hy] at ho
    unfold V.oksB at ho
    exact(Ao ho).1
  · rfl
theorem Zt {v:Nat} {z:Ty v} (w:World) (ha:AcL (Ty:=Ty) P v=true) (hz:Vg (Ty:=Ty) P v=some z):∃ u,(zeroValue v).run P w=.ok u w∧@VRep.rv (Ty v) (Ru Ty v) h z u:=by
 obtain⟨u,us,q1,q2,q3,i,q4,q5⟩:=NU (h:=h) w hz
 refine⟨u,q1,?_⟩
 show if UM.ag Ty v=true then ∃ us,u=.agg us.toArray∧rep h z us else rep h z [u]
 unfold AcL at ha
 rw [q4] at ha
 simp only [q5] at ha
 split at ha
 · rename_i cs hcs
   cases hcs
   rw [if_pos ha]
   exact⟨us,by rw [← q3]; simp [Value.cells],q2⟩
 · cases ha
 · rename_i z' h1 h2 hcs
   cases hcs
   rw [if_neg (by simpa using ha)]
   have:u.cells.toList=[u]:=by
    cases u <;> first | rfl | exact absurd rfl (h1 _) | exact absurd rfl (h2 _)
   rw [this] at q3
   rw [q3]; exact q2
 · cases ha
theorem Ag.mp {i k v:Nat} {l:List (Ty k×Ty v)} (hm:Ag F h g M w) (hi:M i=some (.mp k v l)):(g i).nl=false∧∃ es c,w.heap[(g i).b]? = some (.map es c)∧Se h es.toList c k v l:=hm.cell i _ hi
variable [UMP Ty P]
theorem Vx {T:TypeId} {x i:Operand} {ok:Bool} {call:AT Ty} {oc:Oc Ty} (hop:o.op=.lookup T x i ok) (hm:Ag F h g (AL.get s) w) {p:Nat→Bool} (hf:Dg p base) (hin:EV p (AL.get s)) (he:Lj g h (Gu m) ⟨t,d⟩) (hi:O5 p (Gu m)) (hr:(O2 P call base m s (.lookup T x i ok)).runK some=some oc) (hK:Vp F h g p base (AL.get s) K Q ⟨t,d⟩ o.dst oc):o.wp P ⟨t,d⟩ w K Q:=by
 rw [O2] at hr
 split at hr
 · rename_i xv kx hx hkx
   have hxe:=he x _ hx
   have hke:=he i _ hkx
   unfold Ad2 at hr
   split at hr
   · rename_i KT E j hT
     split at hr
     · rename_i k v l hcell
       cases hb:(Nat.beq KT k && Nat.beq E v && AcL (Ty:=Ty) P v && (bif UM.ag Ty k then kx.aggB else !kx.aggB)) with
       | false=>rw [hb] at hr; cases hr
       | true =>
        rw [hb,Zac] at hr
        obtain⟨hb,b4⟩:=Ao hb
        obtain⟨hb,b3⟩:=Ao hb
        obtain⟨b1,b2⟩:=Ao hb
        obtain rfl:=Zab b1
        obtain rfl:=Zab b2
        split at hr
        · rename_i kk z hkk hz
          cases hr
          obtain⟨hnl,es,c,hheap,hkey,hents⟩:=hm.mp hcell
          unfold V.den at hxe
          have hkv:=Sp hkey hke b4 hkk
          obtain⟨zu,hz1,hz2⟩:=Zt (h:=h) w b3 hz
          have key:∃ u,(Instr.lookup T ((Act.mk t d).eval x) ((Act.mk t d).eval i) ok).run P w=.ok (if ok then .tuple #[u,.bool (Dm (UM.keq KT) l kk)] else u) w∧@VRep.rv (Ty E) (Ru Ty E) h (AN (UM.keq KT) l kk z) u:=by
           rw [hxe,hkv]
           rcases @WV P KT (Ty KT) (Ty E) (Te hkey) (AcG hkey) (Ru Ty E) h w T E _ c es l kk zu hT (UMP.kl KT hkey) hheap hents hz1 ok with⟨a1,a2⟩ | ⟨y,u,a1,a2,a3⟩
           · rw [Nk hkey] at a1
             refine⟨zu,?_,?_⟩
             · unfold Dm; rw [a1]; exact a2
             · unfold AN; rw [a1]; exact hz2
           · rw [Nk hkey] at a1
             refine⟨u,?_,?_⟩
             · unfold Dm; rw [a1]; exact a3
             · unfold AN; rw [a1]; exact a2
          obtain⟨u,hrun,hu⟩:=key
          unfold Oper.wp execOp
          simp only [hop,Sem.run_bind,hrun,Result.andThen_ok,Sem.run_pure]
          refine hK h g w _ (Ad.le_refl _) (fun _ _=>rfl) hm hin.up ?_ ?_
          · cases ok with
            | true =>
             show(V.tup _).den g h (Value.tuple _)
             unfold V.den V.dens V.dens V.dens
             exact⟨[u,.bool (Dm (UM.keq KT) l kk)],rfl,_,_,rfl,Sq hu,_,_,rfl,by unfold V.den; rfl,rfl⟩
            | false=>exact Sq hu
          · cases ok with
            | true =>
             show(V.tup _).okB _=true
             unfold V.okB V.oksB V.oksB V.oksB
             rw [Vw]; rfl
            | false=>exact Vw
        · cases hr
     · cases hr
   · cases hr
 · cases hr
omit [UMP Ty P] in
theorem Rx {T:TypeId} {r:Option Operand} {call:AT Ty} {oc:Oc Ty} (hop:o.op=.makeMap T r) (hm:Ag F h g (AL.get s) w) {p:Nat→Bool} (hf:Dg p base) (hin:EV p (AL.get s)) (hr:(O2 P call base m s (.makeMap T r)).runK some=some oc) (hK:Vp F h g p base (AL.get s) K Q ⟨t,d⟩ o.dst oc):o.wp P ⟨t,d⟩ w K Q:=by
 cases r with
 | some r =>
  exfalso
  obtain⟨v,h1,_⟩:=Tr.run_bind (show((BQ P (Gu m) (AL.get s) (.makeMap T (some r))).bind fun v=>(.ret (.ok v []):Tr (Oc Ty))).runK some=some oc from hr)
  cases h1
 | none =>
  rw [O2] at hr
  split at hr
  · rename_i KT E hT
    cases hk:UM.isK Ty KT with
    | false=>rw [hk] at hr; cases hr
    | true =>
     rw [hk,Zac] at hr
     cases hr
     have hrun:(Instr.makeMap T none).run P w=.ok (.map (some w.heap.size)) (w.alloc (.map #[] 0)):=by
      unfold Instr.makeMap
      rfl
     unfold Oper.wp execOp
     simp only [hop,Option.map_none,Sem.run_bind,hrun,Result.andThen_ok,Sem.run_pure]
     refine hK h (F5 g base ⟨w.heap.size,0,0,false⟩) _ _ (Ad.le_refl _) (fun i hi=>CT hf hi) ?_ ?_ ?_ ?_
     · exact hm.newB hf hin (World.grownBy_alloc w _ none) (Zal _) (by simp) ⟨rfl,#[],0,HP w _,hk,@Ni.nil (Ty KT) (Ty E) (Te hk) (Ru Ty E) h 0⟩
     · exact hin.up.put DB rfl
     · unfold V.den; rw [BA]
     · unfold V.okB; exact DB
  · cases hr
theorem PW {T:TypeId} {x k y:Operand} {oc:Oc Ty} (hop:o.op=.mapUpdate T x k y∨o.op=.insert T x k y) (hm:Ag F h g (AL.get s) w) {p:Nat→Bool} (hf:Dg p base) (hin:EV p (AL.get s)) (he:Lj g h (Gu m) ⟨t,d⟩) (hi:O5 p (Gu m))
  (hr:(match Gu m x,Gu m k,Gu m y with | some x,some k,some y=>AdX P s T x k y | _,_,_=>.fail:Tr (Oc Ty)).runK some=some oc) (hK:Vp F h g p base (AL.get s) K Q ⟨t,d⟩ o.dst oc):o.wp P ⟨t,d⟩ w K Q:=by
 split at hr
 · rename_i xv kx vx hx hkx hvx
   have hxe:=he x _ hx
   have hke:=he k _ hkx
   have hve:=he y _ hvx
   unfold AdX at hr
   split at hr
   · rename_i KT E j hT
     split at hr
     · rename_i k' v l hcell
       cases hb:(Nat.beq KT k' && Nat.beq E v && (bif UM.ag Ty k' then kx.aggB else !kx.aggB) && (bif UM.ag Ty v then vx.aggB else !vx.aggB)) with
       | false=>rw [hb] at hr; cases hr
       | true =>
        rw [hb,Zac] at hr
        obtain⟨hb,b4⟩:=Ao hb
        obtain⟨hb,b3⟩:=Ao hb
        obtain⟨b1,b2⟩:=Ao hb
        obtain rfl:=Zab b1
        obtain rfl:=Zab b2
        split at hr
        · rename_i kk vv hkk hvv
          cases hr
          obtain⟨hnl,es,c,hheap,hkey,hents⟩:=hm.mp hcell
          unfold V.den at hxe
          have hkv:=Sp hkey hke b3 hkk
          have hvv:=Zs hve b4 hvv
          obtain⟨es',c',hrun,hE⟩:=@WU P KT (Ty KT) (Ty E) (Te hkey) (AcG hkey) (Ru Ty E) h w T E _ c es l kk vv _ hT (UMP.kl KT hkey) hheap hents hvv
          rw [Vf hkey] at hE
          replace hrun:(Instr.mapUpdate T (.map (some (g j).b)) (UM.kv KT kk) ((Act.mk t d).eval y)).run P w=.ok () (setBlock w (g j).b (.map es' c')):=hrun
          have hex:(execOp (Act.mk t d).eval o).run P w=.ok .skip (setBlock w (g j).b (.map es' c')):=by
           unfold execOp
           rcases hop with hop | hop <;> simp only [hop,hxe,hkv,Sem.run_bind,hrun,Result.andThen_ok,Sem.run_pure]
          unfold Oper.wp
          rw [hex]
          refine hK h g _ _ (Ad.le_refl _) (fun _ _=>rfl) ?_ ?_ (by unfold V.den; rfl) rfl
          · exact hm.set hcell hnl (GK w _ _) ⟨hnl,es',c',NR hheap,hkey,hE⟩
          · exact hin.up.put (Gi (hin _ _ hcell).1) rfl
        · cases hr
     · cases hr
   · cases hr
 · cases hr
omit [UMP Ty P] in
theorem PX:∀ (ns:List Int)(r:ByteArray),(ns.foldl (fun r n=>r.push (UInt8.ofNat n.toNat)) r)=⟨r.data++(ns.map fun n=>UInt8.ofNat n.toNat).toArray⟩
 | [],r=>by cases r; simp
 | n::ns,r=>by
  rw [List.foldl_cons,PX ns]
  cases r
  simp [ByteArray.push]
omit [UMP Ty P] in
theorem Ms (w:World) (a:Addr) (n:Nat):w.grownBy (w.freeze a n) (some a.block):=by
 unfold World.freeze
 split
 · exact⟨rfl,rfl,rfl,Zal _,fun _ _ _=>rfl⟩
 · refine⟨rfl,rfl,rfl,by simp,fun k hk hne=>?_⟩
   have hne:a.block≠k:=fun hh=>hne (by rw [hh])
   simp [Zbb,hne]
theorem Vy (w:World) (a:Addr) (n b o:Nat):K0 (w.freeze a n) b o=K0 w b o:=by
 unfold World.freeze
 split
 · rfl
 · unfold K0 World.cell?
   simp only [Zbb]
   by_cases hab:a.block=b
   · simp only [if_pos hab]
     cases w.heap[b]? with
     | none=>rfl
     | some x=>cases x <;> rfl
   · simp only [if_neg hab]
theorem Ag.freezeFree {M:Mo Ty} {b o n:Nat} (hm:Ag F h g M w) (h1:F.w.heap.size≤b) (h2:F.X b=none) (h4:∀ j d,M j=some d→(g j).nl=false→(g j).b≠b):Ag F h g M (w.freeze ⟨b,o,none⟩ n):=by
 have hg:=Ms w ⟨b,o,none⟩ n
 have hb:∀ c,c<w.heap.size→c≠b→(w.freeze ⟨b,o,none⟩ n).heap[c]? = w.heap[c]?:=fun c hc hne=>hg.block c hc (by simp; exact hne)
 refine⟨hm.below.trans ⟨hg.os,hg.tape,hg.output,hg.size,fun k hk=>hb k (Zai hk hm.size) (by omega)⟩,hm.le,hm.old,?_,?_,?_,hm.inj,?_,hm.glo⟩
 · intro c o' v hv
   obtain⟨q1,q2⟩:=hm.has c o' v hv
   exact⟨Zai q1 hg.size,by rw [Vy]; exact q2⟩
 · exact fun i c hi=>(hm.cell i c hi).block fun hn=>hb _ (hm.own i c hi hn).2.1 (h4 i c hi hn)
 · intro i c hi hn
   obtain⟨q1,q2,q3⟩:=hm.own i c hi hn
   exact⟨q1,Zai q2 hg.size,q3⟩
 · intro c x hx
   obtain⟨q1,q2,q3⟩:=hm.ext c x hx
   have hne:c≠b:=fun hh=>by rw [hh,h2] at hx; cases hx
   exact⟨q1,by rw [hb c (Zag.1 q2).1 hne]; exact q2,q3⟩
omit [UMP Ty P] in
theorem Vz {T1 T2:TypeId} {x:Operand} {r:Tr (Oc Ty)} {oc:Oc Ty} (hop:o.op=.convert T1 T2 x) (hm:Ag F h g (AL.get s) w) {p:Nat→Bool} (hf:Dg p base) (hin:EV p (AL.get s)) (he:Lj g h (Gu m) ⟨t,d⟩) (hi:O5 p (Gu m))
  (hc:(match Gu m x with | some y=>AaT P s T1 T2 y | none=>none)=some r) (hr:r.runK some=some oc) (hK:Vp F h g p base (AL.get s) K Q ⟨t,d⟩ o.dst oc):o.wp P ⟨t,d⟩ w K Q:=by
 split at hc
 · rename_i y hy
   have hye:=he x _ hy
   unfold AaT at hc
   split at hc
   · rename_i E h1 h2
     cases hc
     split at hr
     · rename_i l hl
       cases hb:(Nat.beq E (UM.b8 Ty) && AcM P E) with
       | false=>rw [hb] at hr; cases hr
       | true =>
        rw [hb,Zac] at hr
        cases hr
        obtain⟨b1,b2⟩:=Ao hb
        have h8:P.underlying E=some (.int .u8):=by
         unfold AcM at b2
         split at b2
         · assumption
         · cases b2
        obtain⟨a,c,us,hu,hcs,hcell⟩:=NX hm hye hl
        obtain⟨ns,rfl,hs⟩:=UML.str_rep h l us hcs
        have hlen:l.length=(ns.map (Value.int .u8)).length:=by
         have:=hcs.len
         rw [UML.b8_sz,Nat.mul_one] at this
         exact this.symm
        have hrun:(convert T1 T2 ((Act.mk t d).eval x)).run P w=.ok (.string (UM.str l)) w:=by
         rw [hu,run_convert_bytes_string w T1 T2 E a _ c h1 h8 h2]
         cases a with
         | none =>
          have:ns=[]:=by
           cases ns with
           | nil=>rfl
           | cons n ns=>obtain⟨ad,e,_⟩:=hcell 0 (.int .u8 n) rfl; cases e
          rw [hs,this]
          rfl
         | some ad =>
          have hspot:(ns.map (Value.int .u8))≠[]→ad.spot=none:=fun hne=>by
           cases ns with
           | nil=>exact absurd rfl hne
           | cons n ns=>obtain⟨ad',e,e2,_⟩:=hcell 0 (.int .u8 n) rfl; cases e; exact e2
          have hld:=run_loadCells_list (P:=P) w ad (ns.map (Value.int .u8)) (fun j v hj=>by
           obtain⟨ad',e1,e2,e3⟩:=hcell j v hj
           cases e1
           rw [Ng ad j e2]; exact e3)
          rw [hlen,run_bytesToString w ad _ c ns hld,PX,hs]
          simp
        unfold Oper.wp execOp
        simp only [hop,Sem.run_bind,hrun,Result.andThen_ok,Sem.run_pure]
        exact hK h g w _ (Ad.le_refl _) (fun _ _=>rfl) hm hin.up (by unfold V.den; rfl) rfl
     · cases hr
   · rename_i E h1 h2
     cases hc
     split at hr
     · rename_i b
       cases hb:(Nat.beq E (UM.b8 Ty) && AcM P E) with
       | false=>rw [hb] at hr; cases hr
       | true =>
        rw [hb,Zac] at hr
        cases hr
        obtain⟨b1,b2⟩:=Ao hb
        have h8:P.underlying E=some (.int .u8):=by
         unfold AcM at b2
         split at b2
         · assumption
         · cases b2
        unfold V.den at hye
        have hrun:=Lib.run_convert_string_bytes (P:=P) w T1 T2 E b h1 h2 h8
        have hus:=UML.bts_rep (Ty:=Ty)
        obtain⟨h',hle,hm2,hh⟩:=hm.newSettled (us:=(O1 b).map (.int .u8)) (w':=Lib.bytesWorld w E b)
         ⟨rfl,rfl,rfl,by rw [Lib.bytesWorld_size]; omega,fun j hj _=>Lib.bytesWorld_at_old w E b j hj⟩ (by rw [Lib.bytesWorld_size]; omega)
         (fun u hu=>by obtain⟨n,_,rfl⟩:=ZaV.1 hu; rfl)
         (fun j u hu=>by
          unfold O1 at hu
          rw [ZaD,ZaD] at hu
          cases hj:b.data.toList[j]? with
          | none=>rw [hj] at hu; cases hu
          | some q =>
           rw [hj] at hu
           cases hu
           have hlt:j<b.size:=by have:=(Zaq.1 hj).1; simpa using this
           rw [Lib.bytesWorld_cell w E b j hlt,ZaJ,hj]
           rfl)
        unfold Oper.wp execOp
        simp only [hop,hye,Sem.run_bind,hrun,Result.andThen_ok,Sem.run_pure]
        refine hK h' g _ _ hle (fun _ _=>rfl) hm2 hin.up ?_ rfl
        unfold V.den
        refine⟨_,_,by rw [UML.bts_len],?_⟩
        exact⟨_,hus h' b,fun j v hj=>⟨_,rfl,rfl,by simpa using hh j v hj⟩,by rw [UML.bts_len]; exact grownCap_ge w _ _ _⟩
     · cases hr
   · rename_i E1 E h1 h2
     cases hc
     split at hr
     · rename_i k i
       split at hr
       · rename_i k2 x0 l hs
         cases hb:(Nat.beq k2 k && Nat.beq T1 T2 && AcM P E) with
         | false=>rw [hb] at hr; cases hr
         | true =>
          rw [hb,Zac] at hr
          cases hr
          obtain⟨hb,b3⟩:=Ao hb
          obtain⟨b1,b2⟩:=Ao hb
          have b1:=Zab b1
          have b2:=Zab b2
          subst b1 b2
          have h8:P.underlying E=some (.int .u8):=by
           unfold AcM at b3
           split at b3
           · assumption
           · cases b3
          obtain⟨r1,r2⟩:=hm.row hs
          rcases r2 with⟨_,hl⟩ | ⟨hnl,us,sp,q1,q2,q3,q4,q5,q6⟩
          · cases hl
          · obtain⟨o1,o2,o3,o4⟩:=hm.own i _ hs hnl
            obtain⟨h',e1,e2,e3⟩:=hm.settle hs hnl q1 (Ar.one q2)
            unfold V.den at hye
            rw [if_neg (by rw [hnl]; exact Bool.false_ne_true)] at hye
            have hsh:w.shape? (g i).b=some (k2,(us++sp).toArray.size):=by unfold World.shape?; rw [q1]
            have hrun:(convert T1 T1 ((Act.mk t d).eval x)).run P w=.ok ((Act.mk t d).eval x) (w.freeze ⟨(g i).b,(us++sp).toArray.size,none⟩ 1):=by
             rw [hye]
             have hE:=h1.symm.trans h2
             cases hE
             simp [convert,run_underlying h1,run_underlying h8,markStringish,hsh]
            unfold Oper.wp execOp
            simp only [hop,Sem.run_bind,hrun,Result.andThen_ok,Sem.run_pure]
            refine hK h' g _ _ e1 (fun _ _=>rfl) (e2.freezeFree o1 o3 fun j c hj hn heq=>?_) (fun j c hj=>?_) ?_ rfl
            · unfold Mo.put at hj
              split at hj
              · cases hj
              · rename_i hji; exact hji (hm.inj j i c _ hj hs hn hnl heq)
            · have hj:Mo.put (AL.get s) i none j=some c:=hj
              unfold Mo.put at hj
              split at hj
              · cases hj
              · exact hin.up j c hj
            · unfold V.den
              refine⟨some ⟨(g i).b,0,none⟩,(g i).c,by rw [r1]; exact hye,us,q2.mono e1,fun o x hx=>⟨_,rfl,rfl,?_⟩,by omega⟩
              rw [Zar]
              exact e3 o x hx
       · cases hr
     · cases hr
   · cases hc
 · cases hc
end
section
variable {Ty:Nat→Type} [rT:∀ k,Rep (Ty k)] [RFs] [UM Ty] [UML Ty] {P:Program} {F:Fr} {h:Ad} {g:GE} {w w':World} {s:Az Ty} {base:Nat}
variable {K:Act→World→Prop} {Q:Exit→Act→World→Prop} {t:Array Value} {d:List Deferred} {m:List (Nat×V Ty)} {o:Oper}
theorem Yh {ρ:List Nat} (hn:ρ.Nodup) (hs:KC s ρ ρ=true):HG ρ.length (AL.get (Le s (CQ ρ) 0 ρ)):=fun j c hj=>by
 rw [JB] at hj
 split at hj
 · rename_i hc
   obtain⟨c0,h1,rfl⟩:=Zat.1 hj
   rw [Nat.sub_zero] at h1
   refine⟨Am.2 (by omega),?_⟩
   have hok:=Hq hs _ (C2 (by omega)) _ h1
   have hp:∀ i,A8 ρ i=true→Cl ρ.length (CQ ρ i)=true:=fun i hi=>Am.2 (Kq (Be.1 hi))
   exact A7.okB_ren hp hok
 · cases hj
mutual
theorem V.okB_ids {p:Nat→Bool}:∀ (x:V Ty),x.okB p=true→∀ i∈x.ids,p i=true
 | .int _ _,_,i,hi | .bool _,_,i,hi | .str _,_,i,hi | .nilp,_,i,hi | .nils,_,i,hi | .nilm,_,i,hi | .nilf,_,i,hi | .nili,_,i,hi | .undef,_,i,hi | .lst _ _,_,i,hi | .arr _ _,_,i,hi=>by simp [V.ids] at hi
 | .ptr j _,h,i,hi | .rpt _ j _ _,h,i,hi | .hdr _ j,h,i,hi | .mp j,h,i,hi | .bsl j _,h,i,hi=>by
  simp only [V.ids,Za7] at hi
  subst hi
  unfold V.okB at h; exact h
 | .ept cs o,h,i,hi=>by unfold V.okB at h; unfold V.ids at hi; exact V.oksB_ids cs h i hi
 | .agg cs,h,i,hi=>by unfold V.okB at h; unfold V.ids at hi; exact V.oksB_ids cs h i hi
 | .tup cs,h,i,hi=>by unfold V.okB at h; unfold V.ids at hi; exact V.oksB_ids cs h i hi
 | .fn n a b,h,i,hi=>by
  unfold V.okB at h
  unfold V.ids at hi
  obtain⟨h1,h2⟩:=Ao h
  exact(Zap.1 hi).elim (V.oksB_ids a h1 i) (V.oksB_ids b h2 i)
 | .ifc t x,h,i,hi=>by unfold V.okB at h; unfold V.ids at hi; exact V.okB_ids x h i hi
theorem V.oksB_ids {p:Nat→Bool}:∀ (xs:List (V Ty)),V.oksB p xs=true→∀ i∈V.idss xs,p i=true
 | [],_,i,hi=>by simp [V.idss] at hi
 | c::cs,h,i,hi=>by
  unfold V.oksB at h
  unfold V.idss at hi
  obtain⟨h1,h2⟩:=Ao h
  exact(Zap.1 hi).elim (V.okB_ids c h1 i) (V.oksB_ids cs h2 i)
end
theorem Tt {p:Nat→Bool} (hin:EV p (AL.get s)):∀ (n:Nat)(todo acc:List Nat),(∀ i∈todo,p i=true)→(∀ i∈acc,p i=true)→∀ i∈Mg s n todo acc,p i=true
 | 0,todo,acc,_,h2,i,hi=>h2 i hi
 | n+1,[],acc,_,h2,i,hi=>h2 i hi
 | n+1,j::r,acc,h1,h2,i,hi=>by
  unfold Mg at hi
  cases hb:A8 acc j with
  | true =>
   rw [hb,Zac] at hi
   exact Tt hin n r acc (fun k hk=>h1 k (by simp [hk])) h2 i hi
  | false =>
   rw [hb,Zad] at hi
   refine Tt hin n _ _ (fun k hk=>?_) (fun k hk=>?_) i hi
   · rcases Zap.1 hk with hk | hk
     · exact h1 k (by simp [hk])
     · cases hc:AL.get s j with
       | none=>rw [hc] at hk; simp [Kk] at hk
       | some c =>
        rw [hc] at hk
        have hok:=(hin _ _ hc).2
        cases c with
        | blk tb vs=>exact V.oksB_ids vs hok k hk
        | row a l=>simp [Kk,A7.ids] at hk
        | arr a l=>simp [Kk,A7.ids] at hk
        | mp a b l=>simp [Kk,A7.ids] at hk
        | lp st e tag ks vs=>exact V.oksB_ids vs hok k hk
   · rcases Zap.1 hk with hk | hk
     · exact h2 k hk
     · simp at hk; subst hk; exact h1 k (by simp)
theorem I2 {call:AT Ty} {f:FuncId} {args:List (V Ty)} {vals:List Value} {oc:Oc Ty} (hP:E5 P) (hc:Cm P call) (hm:Ag F h g (AL.get s) w) {p:Nat→Bool} (hf:Dg p base) (hin:EV p (AL.get s)) (hargs:V.dens g h args vals) (hok:V.oksB p args=true)
  (hr:(Iy P call s base f args).runK some=some oc) {a:Act} {dst:Option Tmp} (hK:Vp F h g p base (AL.get s) K Q a dst oc) :
  (f≠An→∀ args w,(callFunc f args).run P w=.ok (.enter f args) w)∧Es P f vals.toArray w (fun
   | .returned v,w''=>K (a.put dst v) w''
   | .panicked chain,w''=>Q (.panic chain) a w''
   | .outgrown,_=>LetsOut Q):=by
 unfold Iy at hr
 generalize hρ:Mg s 200 (V.idss args) []=ρ at hr
 simp only at hr
 cases hb:((AcK P f || Nat.beq f An) && Gh ρ && V.oksB (A8 ρ) args && KC s ρ ρ) with
 | false=>rw [hb] at hr; cases hr
 | true =>
  rw [hb,Zac] at hr
  obtain⟨hb,b4⟩:=Ao hb
  obtain⟨hb,b3⟩:=Ao hb
  obtain⟨b1,b2⟩:=Ao hb
  have hnd:=Fh b2
  have hall:∀ i∈ρ,p i=true:=by rw [← hρ]; exact Tt hin _ _ _ (V.oksB_ids args hok) (by simp)
  refine⟨fun hne args w=>Aec hP ?_ args w,?_⟩
  · rcases Bool.or_eq_true_iff.1 b1 with b1 | b1
    · exact b1
    · exact absurd (Zab b1) hne
  obtain⟨r,hr1,hr2⟩:=Tr.run_bind hr
  cases hb2:(Nat.ble (AZ ρ) r.n && Nat.ble r.n (AZ ρ+64)) with
  | false=>rw [hb2] at hr2; cases hr2
  | true =>
   rw [hb2,Zac] at hr2
   obtain⟨c1,c2⟩:=Ao hb2
   have c1:=Zaf c1
   have c2:=Zaf c2
   rw [A5] at c1 c2 hr1
   obtain⟨X,hm2,hback⟩:=hm.lend hnd b4 hf hall hin
   have hp:∀ i,A8 ρ i=true→Cl ρ.length (CQ ρ i)=true:=fun i hi=>Am.2 (Kq (Be.1 hi))
   have hg2:∀ i,A8 ρ i=true→(fun j=>g (AR ρ j)) (CQ ρ i)=g i:=fun i hi=>by simp only; rw [J9 (Be.1 hi)]
   refine(hc f _ _ _ r hr1 ⟨F.w,F.h,X⟩ h (fun j=>g (AR ρ j)) w vals hm2 (Yh hnd b4) (V.oksB_ren hp args b3) (V.dens_ren (g':=fun j=>g (AR ρ j)) hg2 args vals b3 hargs)).mono ?_
   rintro en w' ⟨h',g',u,hle,hgl,hm3,hin3,hkn,hvok,hvd,rfl⟩
   obtain⟨q1,q2,q3,q4⟩:=hback hm3 hle (fun j hj=>hgl j (Am.2 hj)) hin3 hkn c2
   rw [Az.get_app] at q1 q2
   rw [A5] at hr2
   have hbg:∀ i,p i=true→Mr g g' ρ.length base i=g i:=fun i hi=>by
    unfold Mr
    rw [if_neg]
    intro hh
    rw [hf i hh] at hi
    cases hi
   cases hp2:r.p with
   | false =>
    rw [hp2] at hr2
    cases hr2
    exact hK h' _ w' u hle hbg q1 q2 (q3 _ _ hvok hvd) (q4 _ hvok)
   | true =>
    rw [hp2] at hr2
    cases hr2
    exact hK h' _ w' u hle hbg q1 q2 (q3 _ _ hvok hvd) (q4 _ hvok)
variable [UV Ty]
def Ad5 (y:Bool) (P:Program) (o:Oper) (a:Act) (w:World) (K:Act→World→Prop) (Q:Exit→Act→World→Prop):Prop:=match y with
 | true=>o.wpIn Fence.wide 0 P a w K Q
 | false=>o.wp P a w K Q
theorem Ad5.of {y:Bool} {a:Act} (h:o.wp P a w K Q):Ad5 y P o a w K Q:=match y with
 | true=>Afw h
 | false=>h
theorem Ad5.wp {a:Act} (h:Ad5 false P o a w K Q):o.wp P a w K Q:=h
theorem PY {us:List Value} (h:V.dens g h ([]:List (V Ty)) us):us=[]:=by unfold V.dens at h; exact h
theorem Mt {x:V Ty} {us:List Value} (hd:V.dens g h [x] us):∃ u,us=[u]∧x.den g h u:=by
 unfold V.dens at hd
 obtain⟨u,us',e,h1,h2⟩:=hd
 rw [PY h2] at e
 exact⟨u,e,h1⟩
theorem NY {call:AT Ty} {n:Int} {vs:List (V Ty)} {oc:Oc Ty}:∀ {l:List FuncId},(Ya P call s base n vs l).runK some=some oc→∃ f:Nat,n=(f:Int)∧Nat.blt f An=true∧(Iy P call s base f vs).runK some=some oc
 | [],h=>by cases h
 | f::r,h=>by
  unfold Ya at h
  rw [Tr.runK_br] at h
  cases hn:(n == (f:Int)) with
  | true =>
   rw [hn,Zac] at h
   cases hb:Nat.blt f An with
   | false=>rw [hb] at h; cases h
   | true=>rw [hb,Zac] at h; exact⟨f,by simpa using hn,hb,h⟩
  | false=>rw [hn,Zad] at h; exact NY h
theorem V0 {y:Bool} {call:AT Ty} {f:Operand} {args:Array Operand} {tys:Array TypeId} {l:List TypeId} {fv:V Ty} {vs:List (V Ty)} {oc:Oc Ty} (hop:o.op=.call ⟨.value f,args,tys⟩) (hP:E5 P) (hc:Cm P call) (hy:y=false→∀ args k s,(call An args k s).runK some=none) (hm:Ag F h g (AL.get s) w) {p:Nat→Bool} (hf:Dg p base) (hin:EV p (AL.get s))
  (hfv:fv.den g h ((Act.mk t d).eval f)) (hfo:fv.okB p=true) (hv:V.dens g h vs (args.toList.map (Act.mk t d).eval)) (hvo:V.oksB p vs=true)
  (hr:(AaS P call s base l vs fv).runK some=some oc) (hK:Vp F h g p base (AL.get s) K Q ⟨t,d⟩ o.dst oc):Ad5 y P o ⟨t,d⟩ w K Q:=by
 have h1:args.map (Act.mk t d).eval=(args.toList.map (Act.mk t d).eval).toArray:=by
  apply Array.ext'
  rw [Array.toList_map]
 have go:∀ {fid:Nat} {as bs:List Value} {avs:List (V Ty)},(Act.mk t d).eval f=.func (.func fid) as.toArray bs.toArray→Nat.blt fid An=true→V.dens g h avs (as++args.toList.map (Act.mk t d).eval++bs)→V.oksB p avs=true→(Iy P call s base fid avs).runK some=some oc→o.wp P ⟨t,d⟩ w K Q:=fun {fid as bs avs} hfe hlt hd ho hr=>by
  have hne:fid≠An:=Nj hlt
  obtain⟨hent,hcalls⟩:=I2 hP hc hm hf hin hd ho hr hK
  have hcalls:=hcalls.calls hne
  unfold Oper.wp execOp
  simp only [hop,resolve,h1,hfe]
  simp only [Deferred.ofValue,Sem.run_bind,Sem.run_pure,Result.andThen_ok,invoke,hent hne,Oper.upon]
  have:as.toArray++(args.toList.map (Act.mk t d).eval).toArray++bs.toArray=(as++args.toList.map (Act.mk t d).eval++bs).toArray:=by simp
  rw [this]
  exact hcalls
 unfold AaS at hr
 split at hr
 · rename_i fid a b
   unfold V.den at hfv
   obtain⟨as,bs,hfe,ha,hb⟩:=hfv
   unfold V.okB at hfo
   obtain⟨o1,o2⟩:=Ao hfo
   cases hlt:Nat.blt fid An with
   | true =>
    rw [hlt,Zac] at hr
    rw [PA hlt] at hfe
    exact .of (go hfe hlt (V.dens_append (V.dens_append ha hv) hb) (V.oksB_append (V.oksB_append o1 hvo) o2) hr)
   | false =>
    rw [hlt,Zad] at hr
    cases hyf:Nat.beq fid An with
    | true =>
     rw [hyf,Zac] at hr
     have hyf:=Zab hyf
     split at hr
     · rename_i i
       have hfa:=PY ha
       obtain⟨u,hu,hui⟩:=Mt hb
       unfold V.den at hui
       subst hui hfa
       rw [hu,hyf] at hfe
       replace hfe:(Act.mk t d).eval f=.func (.yield (g i).b) #[] #[]:=by rw [hfe]; unfold Zi; rw [if_pos rfl]
       obtain⟨_,hcalls⟩:=I2 hP hc hm hf hin (V.dens_append hv (hu▸hb)) (V.oksB_append hvo o2) hr hK
       cases y with
       | false =>
        exfalso
        unfold Iy at hr
        simp only [Bool.cond_eq_ite] at hr
        split at hr
        · obtain⟨r,hr1,_⟩:=Tr.run_bind hr
          rw [hy rfl] at hr1
          cases hr1
        · cases hr
       | true =>
        unfold Es at hcalls
        rw [if_pos rfl] at hcalls
        obtain⟨lo,as',r,e1,e2,e3,e4⟩:=hcalls
        have e5:args.toList.map (Act.mk t d).eval=as'∧(g i).b=lo:=by
         have e1:=congrArg Array.toList e1
         simp only [List.append_cancel_left_eq] at e1
         have:=List.append_inj' e1 rfl
         refine⟨this.1,?_⟩
         have:=this.2
         simpa using this
        obtain⟨rfl,rfl⟩:=e5
        show o.wpIn Fence.wide 0 P ⟨t,d⟩ w K Q
        refine⟨fun _ _=>trivial,?_⟩
        rw [show Fence.wide.round=none from rfl,Oper.semAt_none]
        unfold execOp
        simp only [hop,resolve,h1,hfe]
        have hrun:=run_yield (P:=P) (args:=(args.toList.map (Act.mk t d).eval).toArray) e2 (by simpa using e3)
        simp only [Deferred.ofValue,Sem.run_bind,Sem.run_pure,Result.andThen_ok,invoke,Array.empty_append,Array.append_empty,hrun]
        refine⟨fun hh=>by simp [Fence.wide] at hh,RoundIn.mono e4 ?_⟩
        intro en w' hh
        cases en <;> exact hh
     · cases hr
    | false =>
     rw [hyf,Zad] at hr
     cases hdf:Nat.beq fid NS with
     | false=>rw [hdf] at hr; cases hr
     | true =>
      rw [hdf,Zac] at hr
      have hdf:=Zab hdf
      split at hr
      · rename_i n
        have hfb:=PY hb
        obtain⟨u,hu,hui⟩:=Mt ha
        unfold V.den at hui
        subst hui hfb
        rw [hu,hdf] at hfe
        obtain⟨f',rfl,hlt',hr'⟩:=NY hr
        replace hfe:(Act.mk t d).eval f=.func (.func f') ([]:List Value).toArray ([]:List Value).toArray:=by
         rw [hfe]; unfold Zi; rw [if_neg (by decide),if_pos rfl]
         show(if ((f':Nat):Int)<0 then Value.nilFunc else .func (.func ((f':Nat):Int).toNat) #[] #[])=_
         rw [if_neg (by omega)]; rfl
        exact .of (go hfe hlt' (by simpa using hv) hvo hr')
      · cases hr
 · cases hr
variable [UL Ty] [UMP Ty P]
theorem Sr {call:AT Ty} {op:Op} {oc:Oc Ty} (hP:E5 P) (hc:Cm P call) {y:Bool} (hy:y=false→∀ args k s,(call An args k s).runK some=none) (hop:o.op=op) (hm:Ag F h g (AL.get s) w) {p:Nat→Bool} (hf:Dg p base) (hin:EV p (AL.get s)) (hk:MM g h m t) (him:PP p m) (hr:(O2 P call base m s op).runK some=some oc) (hK:Vp F h g p base (AL.get s) K Q ⟨t,d⟩ o.dst oc):Ad5 y P o ⟨t,d⟩ w K Q:=by
 have he:Lj g h (Gu m) ⟨t,d⟩:=Nr hk
 have hi:O5 p (Gu m):=AaW him
 have quiet:∀ {op':Op},o.op=op'→((BQ P (Gu m) (AL.get s) op').bind fun v=>(.ret (.ok v []):Tr (Oc Ty))).runK some=some oc→o.wp P ⟨t,d⟩ w K Q:=fun {op'} hop' hr'=>by
  obtain⟨v,h1,h2⟩:=Tr.run_bind hr'
  cases h2
  obtain⟨u,q1,q2⟩:=Tl (a:=⟨t,d⟩) hop' hm he h1
  unfold Oper.wp
  rw [q1]
  exact hK h g w u (Ad.le_refl _) (fun _ _=>rfl) hm hin.up q2 (Xe (Zo hi (fun i c hc=>(hin i c hc).2) h1))
 cases op with
 | alloc T=>exact .of (Vs hop hm hf hin hr hK)
 | box T x=>exact .of (Zp hop hm hf hin he hi hr hK)
 | store T a x=>exact .of (Vu hop hm hf hin he hi hr hK)
 | buildSlice T n ps=>exact .of (Nt hop hm hf hin he hi hr hK)
 | makeSlice T x y=>exact .of (O6 hop hm hf hin he hr hK)
 | panic x =>
  rw [O2] at hr
  split at hr
  · rename_i ty v hx
    cases hr
    have hxe:=he x _ hx
    have hx2:=hxe
    unfold V.den at hxe
    obtain⟨u,hxe,hu⟩:=hxe
    have hrun:(execOp (Act.mk t d).eval o).run P w=.halt (.panic (.iface ty u)) w:=by
     unfold execOp
     simp only [hop,hxe,Instr.panic]
     rfl
    refine .of ?_
    unfold Oper.wp
    rw [hrun]
    exact hK h g w (.iface ty u) (Ad.le_refl _) (fun _ _=>rfl) hm hin.up (by rw [← hxe]; exact hx2) (Xe (hi x _ hx))
  · cases hr
 | call c =>
  obtain⟨callee,args,tys⟩:=c
  cases callee with
  | builtin b =>
   cases b with
   | append=>exact .of (Ts hop hm hf hin he hi hr hK)
   | _=>exact .of (quiet hop hr)
  | invoke x y=>exact .of (quiet hop hr)
  | value f =>
   rw [O2] at hr
   split at hr
   · rename_i fv vs hff hvs
     exact V0 hop hP hc hy hm hf hin (he f _ hff) (hi f _ hff) (Kp he hvs) (Tn hi hvs) hr hK
   · cases hr
 | lookup T x i ok=>exact .of (Vx hop hm hf hin he hi hr hK)
 | makeMap T r=>exact .of (Rx hop hm hf hin hr hK)
 | mapUpdate T x k v=>exact .of (PW (.inl hop) hm hf hin he hi hr hK)
 | insert T x k v=>exact .of (PW (.inr hop) hm hf hin he hi hr hK)
 | convert T1 T2 x =>
  rw [O2] at hr
  split at hr
  · rename_i r hcv
    exact .of (Vz hop hm hf hin he hi hcv hr hK)
  · exact .of (quiet hop hr)
 | _=>exact .of (quiet hop hr)
end
end Go.Proofs.YtkpgggfibljflaaGreatDoor
namespace Go.Proofs.YtkpgggfibljflaaGreatDoor
open Go Go.RowKit
open Rep (rep)
section
variable {P:Program} {Q:Exit→Act→World→Prop} {a:Act} {w:World} {ops:Array Oper}
theorem V1 {F:Fence} {n0:Nat} {c:Code} (I:Nat→Act→World→Prop) (n:Nat) (h0:I n a w)
  (round:∀ n a w,I n a w→c.wpIn F n0 P (Exit.then (fun a' w'=>∃ m,m<n∧I m a' w') Q) a w):(Code.loop c).wpIn F n0 P Q a w:=by
 intro b k cs hro hb hr
 have key:∀ n a w,I n a w →
   ∃ e a' w',Q e a' w'∧ArrivesIn (Machine.fenced P F) P (lone (b.atR a (.code c::.inLoop c::k)) cs w) b k cs e a' w':=by
  intro n
  induction n using Nat.strongRecOn with
  | _ n ih =>
   intro a w hI
   obtain⟨e,a₁,w₁,hq,harr⟩:=round n a w hI b (.inLoop c::k) cs hro hb hr
   cases e with
   | normal =>
    obtain⟨m,hlt,hI₁⟩:=hq
    obtain⟨e₂,a₂,w₂,hq₂,harr₂⟩:=ih m hlt a₁ w₁ hI₁
    exact⟨e₂,a₂,w₂,hq₂,.of_steps (StepsIn.trans harr (.one (fenced_calm hb hr rfl) stepR_inLoop)) harr₂⟩
   | exit id=>exact⟨_,a₁,w₁,hq,.pass (x:=.inLoop c) rfl (fun _ _=>.inl (by simp)) harr⟩
   | goto l=>exact⟨_,a₁,w₁,hq,.pass (x:=.inLoop c) rfl (fun _ _=>.inl (by simp)) harr⟩
   | ret=>exact⟨_,a₁,w₁,hq,.pass (x:=.inLoop c) rfl (fun _ _=>.inl (by simp)) harr⟩
   | panic ch=>exact⟨_,a₁,w₁,hq,.pass (x:=.inLoop c) rfl (fun _ _=>.inl (by simp)) harr⟩
   | outgrown=>exact⟨_,a₁,w₁,hq,.pass (x:=.inLoop c) rfl (fun _ _=>.inl (by simp)) harr⟩
 obtain⟨e,a',w',hq,harr⟩:=key n a w h0
 exact⟨e,a',w',hq,.of_steps (.one (fenced_calm hb hr rfl) stepR_loop) harr⟩
structure ws (P:Program) (c:Code) (Q:Exit→Act→World→Prop) (a:Act) (w:World):Prop where
 wp:c.wp P Q a w
 rd : ¬ LetsOut Q→∀ l,c.wpIn (AdV l) 0 P Q a w
theorem AcT (h:Q .normal a w):ws P .skip Q a w:=⟨wp_skip h,fun _ _=>wpIn_skip h⟩
theorem AaY {l:Nat} (h:Q .normal a w):ws P (.label l) Q a w:=⟨wp_label h,fun _ _=>wpIn_label h⟩
theorem AcU {id:Nat} (h:Q (.exit id) a w):ws P (.exit id) Q a w:=⟨wp_exit h,fun _ _=>wpIn_exit h⟩
theorem Aed (h:Q .ret a w):ws P .ret Q a w:=⟨wp_ret h,fun _ _=>wpIn_ret h⟩
theorem Aee {x y:Code} (h:ws P x (Exit.then (ws P y Q) Q) a w):ws P (.seq x y) Q a w :=
 ⟨wp_seq (wp_mono h.wp fun e a w hq=>by cases e <;> first | exact ws.wp hq | exact hq),
  fun hl l=>wpIn_seq (wpIn_mono (h.rd (fun⟨a,w,h1⟩=>hl ⟨a,w,h1⟩) l) fun e a w hq=>by cases e <;> first | exact ws.rd hq hl l | exact hq)⟩
theorem AaZ {id:Nat} {c:Code} (h:ws P c (Exit.inBlock id Q) a w):ws P (.block id c) Q a w :=
 ⟨wp_block h.wp,fun hl l=>wpIn_block (h.rd (fun⟨a,w,h1⟩=>hl ⟨a,w,h1⟩) l)⟩
theorem Zu {c:Code} (I:Nat→Act→World→Prop) (n:Nat) (h0:I n a w)
  (round:∀ n a w,I n a w→ws P c (Exit.then (fun a' w'=>∃ m,m<n∧I m a' w') Q) a w):ws P (.loop c) Q a w :=
 ⟨Sb I n h0 fun n a w hI=>(round n a w hI).wp,fun hl l=>V1 I n h0 fun n a w hI=>(round n a w hI).rd (fun⟨a,w,h1⟩=>hl ⟨a,w,h1⟩) l⟩
theorem Ry {c:Operand} {x y:Code} {t:Bool} (hc:a.eval c=.bool t) (h1:t=true→ws P x Q a w) (h2:t=false→ws P y Q a w):ws P (.cond c x y) Q a w :=
 ⟨wp_cond_split hc (fun h=>(h1 h).wp) (fun h=>(h2 h).wp),fun hl l=>wpIn_cond_split hc (fun h=>(h1 h).rd hl l) (fun h=>(h2 h).rd hl l)⟩
theorem PZ {id:Nat} (hd:Fc ops=true) (h:FF P ops Q 0 a w):ws P (.region id ops false) Q a w:=⟨P1 h,fun hl _=>WW hl hd h⟩
theorem V2 {id:Nat} (hd:Fc ops=true) (hm:P.follows .mixedOrders=true) (h:AdT P ops Q [] a w.drew):ws P (.region id ops true) Q a w:=⟨NO hm h,fun hl _=>Td hl hd hm h⟩
end
section
variable {P:Program} {Q:Exit→Act→World→Prop} {a:Act} {w:World} {ops:Array Oper}
def Nw (y:Bool) (P:Program) (ops:Array Oper) (Q:Exit→Act→World→Prop) (i:Nat) (a:Act) (w:World):Prop:=match y with
 | true=>Fd P ops Q i a w
 | false=>FF P ops Q i a w
theorem Nw.end_ {y:Bool} {i:Nat} (hi:ops.size≤i) (h:Q .normal a w):Nw y P ops Q i a w:=match y with
 | true=>Vd hi h
 | false=>WS hi h
theorem Nw.op {y:Bool} {i:Nat} {o:Oper} (ho:ops[i]? = some o)
  (h:if Region.wanted o (yielded ops a.tmps) then Ad5 y P o a w (Nw y P ops Q (i+1)) Q else Nw y P ops Q (i+1) (a.put o.dst undef) w):Nw y P ops Q i a w:=by
 cases y with
 | true=>exact WX ho h
 | false =>
  refine Zg (Zag.1 ho).1 ?_
  unfold wpOp
  simp only [ho]
  split
  · rename_i hw
    rw [if_pos hw] at h
    exact .inl h
  · rename_i hw
    rw [if_neg hw] at h
    exact h
def CJ (y:Bool) (P:Program) (c:Code) (Q:Exit→Act→World→Prop) (a:Act) (w:World):Prop:=match y with
 | true=>c.wp P Q a w
 | false=>ws P c Q a w
theorem CJ.wp {y:Bool} {c:Code} (h:CJ y P c Q a w):c.wp P Q a w:=match y,h with
 | true,h=>h
 | false,h=>ws.wp h
theorem CJ.skip {y:Bool} (h:Q .normal a w):CJ y P .skip Q a w:=match y with
 | true=>wp_skip h
 | false=>AcT h
theorem CJ.label {y:Bool} {l:Nat} (h:Q .normal a w):CJ y P (.label l) Q a w:=match y with
 | true=>wp_label h
 | false=>AaY h
theorem CJ.exit {y:Bool} {id:Nat} (h:Q (.exit id) a w):CJ y P (.exit id) Q a w:=match y with
 | true=>wp_exit h
 | false=>AcU h
theorem CJ.ret {y:Bool} (h:Q .ret a w):CJ y P .ret Q a w:=match y with
 | true=>wp_ret h
 | false=>Aed h
theorem CJ.seq {y:Bool} {c1 c2:Code} (h:CJ y P c1 (Exit.then (CJ y P c2 Q) Q) a w):CJ y P (.seq c1 c2) Q a w:=match y,h with
 | true,h=>wp_seq h
 | false,h=>Aee h
theorem CJ.block {y:Bool} {id:Nat} {c:Code} (h:CJ y P c (Exit.inBlock id Q) a w):CJ y P (.block id c) Q a w:=match y,h with
 | true,h=>wp_block h
 | false,h=>AaZ h
theorem CJ.loop {y:Bool} {c:Code} (I:Nat→Act→World→Prop) (n:Nat) (h0:I n a w)
  (round:∀ n a w,I n a w→CJ y P c (Exit.then (fun a' w'=>∃ m,m<n∧I m a' w') Q) a w):CJ y P (.loop c) Q a w:=match y,round with
 | true,round=>Sb I n h0 round
 | false,round=>Zu I n h0 round
theorem CJ.cond {y:Bool} {c:Operand} {c1 c2:Code} {t:Bool} (hc:a.eval c=.bool t) (h1:t=true→CJ y P c1 Q a w) (h2:t=false→CJ y P c2 Q a w):CJ y P (.cond c c1 c2) Q a w:=match y,h1,h2 with
 | true,h1,h2=>wp_cond_split hc h1 h2
 | false,h1,h2=>Ry hc h1 h2
theorem CJ.scope {y:Bool} {c:Code} (hy:y=true) (h:CJ y P c (Exit.noGoto Q) a w):CJ y P (.scope c) Q a w:=by
 subst hy
 exact wp_scope_straight h
theorem CJ.region {y:Bool} {id:Nat} (hd:Fc ops=true) (h:Nw y P ops Q 0 a w):CJ y P (.region id ops false) Q a w:=match y,h with
 | true,h=>O0 h
 | false,h=>PZ hd h
theorem CJ.regionG {y:Bool} {id:Nat} (hd:Fc ops=true) (hm:P.follows .mixedOrders=true) (h:AdT P ops Q [] a w.drew):CJ y P (.region id ops true) Q a w:=match y with
 | true=>NO hm h
 | false=>V2 hd hm h
structure FD (F F':Fr) (d d':List Deferred):Prop where
 w:F'.w=F.w
 h:F'.h=F.h
 X:∀ b x,F.X b=some x→F'.X b=some x
 ds:∃ bs:List Nat,d' = bs.map Ve++d∧bs.Nodup∧∀ b∈bs,F.X b=none∧F'.X b=some (.deferred (some []))
theorem FD.refl (F:Fr) (d:List Deferred):FD F F d d:=⟨rfl,rfl,fun _ _ h=>h,[],rfl,Zbt,by simp⟩
theorem FD.trans {F F' F2:Fr} {d d' d2:List Deferred} (h1:FD F F' d d') (h2:FD F' F2 d' d2):FD F F2 d d2:=by
 obtain⟨bs,rfl,n1,q1⟩:=h1.ds
 obtain⟨bs2,rfl,n2,q2⟩:=h2.ds
 refine⟨by rw [h2.w,h1.w],by rw [h2.h,h1.h],fun b x hb=>h2.X b x (h1.X b x hb),bs2++bs,by simp,List.nodup_append.2 ⟨n2,n1,?_⟩,fun b hb=>?_⟩
 · intro x hx y hy hxy
   subst hxy
   have h3:=(q2 x hx).1
   rw [(q1 x hy).2] at h3
   cases h3
 · rcases Zap.1 hb with hb | hb
   · refine⟨?_,(q2 b hb).2⟩
     cases hx:F.X b with
     | none=>rfl
     | some x=>have:=h1.X b x hx; rw [(q2 b hb).1] at this; cases this
   · exact⟨(q1 b hb).1,h2.X _ _ (q1 b hb).2⟩
end
section
variable {Ty:Nat→Type} [rT:∀ k,Rep (Ty k)] [RFs] [UM Ty] [UML Ty] {F F':Fr} {h:Ad} {g:GE} {M:Mo Ty} {w:World} {d d':List Deferred}
theorem Ag.back (hf:FD F F' d d') (hm:Ag F' h g M w):Ag F h g M w:=by
 refine⟨?_,?_,?_,hm.has,hm.cell,?_,hm.inj,fun b x hx=>?_,by rw [← hf.w]; exact hm.glo⟩
 · rw [← hf.w]; exact hm.below
 · rw [← hf.h]; exact hm.le
 · rw [← hf.w,← hf.h]; exact hm.old
 · intro i c hi hn
   obtain⟨q1,q2,q3,q4⟩:=hm.own i c hi hn
   rw [hf.w] at q1
   refine⟨q1,q2,?_,q4⟩
   cases hx:F.X (g i).b with
   | none=>rfl
   | some x=>rw [hf.X _ _ hx] at q3; cases q3
 · have:=hm.ext b x (hf.X b x hx)
   rw [hf.w] at this
   exact this
end
section
variable {Ty:Nat→Type} [rT:∀ k,Rep (Ty k)] [RFs] [UM Ty] [UML Ty] {P:Program} {F:Fr} {h:Ad} {g:GE} {w w':World} {s:Az Ty} {N n:Nat}
variable {Q:Exit→Act→World→Prop} {t:Array Value} {d:List Deferred} {m:List (Nat×V Ty)} {ops:Array Oper}
structure RS (N:Nat) (F:Fr) (h:Ad) (g:GE) (n:Nat) (m:List (Nat×V Ty)) (s:Az Ty) (t:Array Value) (w:World):Prop where
 size:t.size=N
 kn:MM g h m t
 mem:Ag F h g (AL.get s) w
 im:PP (Cl n) m
 is_:HG n (AL.get s)
def Zv (Q:Exit→Act→World→Prop) (g:GE) (h:Ad) (n:Nat) (a:Act) (w:World):AcJ Ty→Prop
 | .normal=>Q .normal a w
 | .exit id=>Q (.exit id) a w
 | .ret=>Q .ret a w
 | .pan v=>∀ u,v.den g h u→v.okB (Cl n)=true→Q (.panic [{ v:=u,recovered:=false }]) a w
def Aba (N:Nat) (F:Fr) (h:Ad) (g:GE) (n:Nat) (Q:Exit→Act→World→Prop) (d:List Deferred) (lf:Lf Ty):Prop :=
 ∀ (F':Fr)(d':List Deferred)(h':Ad)(g':GE)(t':Array Value)(w':World),FD F F' d d'→Ad.le h h'→(∀ i,i<n→g' i=g i)→n≤lf.st.nx→RS N F' h' g' lf.st.nx lf.st.m lf.st.s t' w'→Zv Q g' h' lf.st.nx ⟨t',d'⟩ w' lf.e
theorem MM.mono {h':Ad} {g':GE} {p:Nat→Bool} (hk:MM g h m t) (hi:PP p m) (hle:Ad.le h h') (hg:∀ i,p i=true→g' i=g i):MM g' h' m t:=fun k v hv=>by
 obtain⟨u,h1,h2⟩:=hk k v hv
 exact⟨u,h1,V.den_mono hle _ _ (V.den_agree hg (hi k v hv) h2)⟩
theorem MM.put {k:Nat} {v:V Ty} {u:Value} (hk:MM g h m t) (hlt:k<t.size) (hv:v.den g h u):MM g h ((k,v)::m) (t.setIfInBounds k u):=fun j x hj=>by
 unfold AL.get at hj
 cases hb:Nat.beq k j with
 | true =>
  rw [hb] at hj
  cases hj
  have:=Zab hb
  subst this
  exact⟨u,by simp [hlt],hv⟩
 | false =>
  rw [hb] at hj
  have hne:k≠j:=fun hh=>by subst hh; simp at hb
  obtain⟨u',h1,h2⟩:=hk j x hj
  exact⟨u',by rw [ZaN hne]; exact h1,h2⟩
theorem PP.put {p:Nat→Bool} {k:Nat} {v:V Ty} (hi:PP p m) (hv:v.okB p=true):PP p ((k,v)::m):=fun j x hj=>by
 unfold AL.get at hj
 cases hb:Nat.beq k j with
 | true=>rw [hb] at hj; cases hj; exact hv
 | false=>rw [hb] at hj; exact hi j x hj
theorem PP.mono {p q:Nat→Bool} (hi:PP p m) (hpq:∀ i,p i=true→q i=true):PP q m:=fun k v hv=>V.okB_imp hpq v (hi k v hv)
theorem EV.mono {p q:Nat→Bool} {M:Mo Ty} (hi:EV p M) (hpq:∀ i,p i=true→q i=true):EV q M:=fun i c hc=>⟨hpq i (hi i c hc).1,A7.okB_imp hpq (hi i c hc).2⟩
theorem Et {a b:Nat} (h:a≤b):∀ i,Cl a i=true→Cl b i=true:=fun i hi=>Am.2 (Zai (Am.1 hi) h)
theorem Tu {a:Nat}:∀ i,Rj (Cl a) a i=true→Cl (a+64) i=true:=fun i hi=>by
 unfold Rj at hi
 simp only [ZaL] at hi
 rcases hi with hi | hi
 · exact Am.2 (by have:=Am.1 hi; omega)
 · exact Am.2 (Df.1 hi).2
theorem MM.putM {dst:Option Tmp} {v:V Ty} {u:Value} (hk:MM g h m t) (hN:t.size=N) (hd:Sj N dst=true) (hv:v.den g h u):MM g h (putM m dst v) ((Act.mk t d).put dst u).tmps:=by
 cases dst with
 | none=>exact hk
 | some k=>exact hk.put (by rw [hN]; exact Zaf hd) hv
theorem PP.putM {p:Nat→Bool} {dst:Option Tmp} {v:V Ty} (hi:PP p m) (hv:v.okB p=true):PP p (putM m dst v):=by
 cases dst with
 | none=>exact hi
 | some k=>exact hi.put hv
theorem Mu (a:Act) (dst:Option Tmp) (u:Value):(a.put dst u).tmps.size=a.tmps.size:=by cases dst <;> simp [Act.put]
theorem I3 (a:Act) (dst:Option Tmp) (u:Value):(a.put dst u).defers=a.defers:=by cases dst <;> rfl
def Ss (m m':List (Nat×V Ty)):Prop:=∀ k,AL.get m k=AL.get m' k
theorem V3 {o:Oper} {ρ:Type} {yes no:List (Nat×V Ty)→Tr ρ} {x:ρ} (hk:MM g h m t) (hr:(Sk ops m o yes no).runK some=some x) :
  ∃ m',Ss m' m∧((Region.wanted o (yielded ops t)=true∧(yes m').runK some=some x)∨(Region.wanted o (yielded ops t)=false∧(no m').runK some=some x)):=by
 unfold Sk at hr
 split at hr
 · rename_i hg
   exact⟨m,fun _=>rfl,.inl ⟨by simp [Region.wanted,hg],hr⟩⟩
 · rename_i j wnt hg
   split at hr
   · rename_i oj hoj
     split at hr
     · rename_i dd hd
       have hy:∀ u,t[dd]? = some u→yielded ops t j=match u with | .bool b=>some b | _=>none:=fun u hu=>by
        unfold yielded
        rw [hoj]
        simp only [Zaa,hd,hu]
        cases u <;> rfl
       split at hr
       · rename_i b hb
         obtain⟨u,h1,h2⟩:=hk dd _ hb
         unfold V.den at h2
         subst h2
         rw [Tr.runK_br] at hr
         have hw:Region.wanted o (yielded ops t)=(b == wnt):=by
          unfold Region.wanted
          simp only [hg,hy _ h1]
          cases b <;> cases wnt <;> rfl
         have hsame:∀ b',b=b'→Ss ((dd,.bool b')::m) m:=fun b' hbb k=>by
          subst hbb
          show(bif Nat.beq dd k then some (V.bool b) else AL.get m k)=AL.get m k
          cases hk2:Nat.beq dd k with
          | true=>have:=Zab hk2; subst this; exact hb.symm
          | false=>rfl
         cases wnt <;> cases b
         · exact⟨_,hsame _ rfl,.inl ⟨by rw [hw]; rfl,hr⟩⟩
         · exact⟨_,hsame _ rfl,.inr ⟨by rw [hw]; rfl,hr⟩⟩
         · exact⟨_,hsame _ rfl,.inr ⟨by rw [hw]; rfl,hr⟩⟩
         · exact⟨_,hsame _ rfl,.inl ⟨by rw [hw]; rfl,hr⟩⟩
       · rename_i hb
         obtain⟨u,h1,h2⟩:=hk dd _ hb
         unfold V.den at h2
         subst h2
         refine⟨m,fun _=>rfl,.inr ⟨?_,hr⟩⟩
         unfold Region.wanted
         simp only [hg,hy _ h1,Go.undef]
         rfl
       · cases hr
     · cases hr
   · cases hr
variable [UV Ty] [UL Ty] [UMP Ty P]
theorem MM.same {m':List (Nat×V Ty)} (hk:MM g h m t) (hs:Ss m' m):MM g h m' t:=fun k v hv=>hk k v (by rw [← hs k]; exact hv)
theorem PP.same {p:Nat→Bool} {m':List (Nat×V Ty)} (hi:PP p m) (hs:Ss m' m):PP p m':=fun k v hv=>hi k v (by rw [← hs k]; exact hv)
theorem Gx {y:Bool} {call:AT Ty} (hP:E5 P) (hc:Cm P call) (hy:y=false→∀ args k s,(call An args k s).runK some=none) {lf:Lf Ty} {n0:Nat} {h0:Ad} {g0:GE} (hK:Aba N F h0 g0 n0 Q d lf) :
  ∀ (r:List Oper)(i:Nat)(m:List (Nat×V Ty))(s:Az Ty)(h:Ad)(g:GE)(t:Array Value)(w:World),ops.toList.drop i=r→RS N F h g (n0+64*i) m s t w→Ad.le h0 h→(∀ j,j<n0→g j=g0 j)→(Nm P N call ops n0 i r m s).runK some=some lf→Nw y P ops Q i ⟨t,d⟩ w
 | [],i,m,s,h,g,t,w,hd,hs,hle,hg,hr=>by
  cases hr
  refine Nw.end_ ?_ ?_
  · rcases Za2 i ops.size with h' | h'
    · have:=congrArg List.length hd
      simp at this
      omega
    · exact h'
  · exact hK F d h g t w (FD.refl F d) hle hg (by simp only; omega) hs
 | o::r,i,m,s,h,g,t,w,hd,hs,hle,hg,hr=>by
  have hi:ops[i]? = some o:=by
   rw [← Zaw]
   have:=congrArg (fun l:List Oper=>l[0]?) hd
   simpa using this
  have hd':ops.toList.drop (i+1)=r:=by
   have:=congrArg List.tail hd
   simpa [List.tail_drop] using this
  have hlt:i<ops.size:=(Zag.1 hi).1
  unfold Nm at hr
  cases hdst:Sj N o.dst with
  | false=>rw [hdst] at hr; cases hr
  | true =>
   rw [hdst,Zac] at hr
   obtain⟨m',hsame,hcase⟩:=V3 hs.kn hr
   refine Nw.op hi ?_
   rcases hcase with⟨hw,hr⟩ | ⟨hw,hr⟩
   · simp only [hw,if_true]
     obtain⟨oc,h1,h2⟩:=Tr.run_bind hr
     refine Sr hP hc hy rfl hs.mem (FW _) hs.is_ (hs.kn.same hsame) (hs.im.same hsame) h1 ?_
     cases oc with
     | ok v ws =>
      intro h' g' w' u q1 q2 q3 q4 q5 q6
      simp only [V.frc_eq,Ti,Th] at h2
      have hact:(Act.mk t d).put o.dst u=Act.mk ((Act.mk t d).put o.dst u).tmps d:=OJ (I3 _ _ _)
      rw [hact]
      refine Gx hP hc hy hK r (i+1) _ _ h' g' _ w' hd' ⟨by rw [Mu]; exact hs.size,?_,?_,?_,?_⟩ (Ad.le_trans hle q1) (fun j hj=>by rw [q2 j (Am.2 (by omega))]; exact hg j hj) h2
      · exact((hs.kn.same hsame).mono (hs.im.same hsame) q1 q2).putM hs.size hdst q5
      · rw [Az.get_app]; exact q3
      · refine((hs.im.same hsame).mono (Et (by omega))).putM ?_
        exact V.okB_imp (fun j hj=>by have:=Tu j hj; rwa [Nat.mul_add,← Zbk]) _ q6
      · rw [Az.get_app]
        exact q4.mono fun j hj=>by have:=Tu j hj; rwa [Nat.mul_add,← Zbk]
     | pan v ws =>
      intro h' g' w' u q1 q2 q3 q4 q5 q6
      cases h2
      have hp:∀ j,Rj (Cl (n0+64*i)) (n0+64*i) j=true→Cl (n0+64*(i+1)) j=true:=fun j hj=>by have:=Tu j hj; rwa [Nat.mul_add,← Zbk]
      exact hK F d h' g' t w' (FD.refl F d) (Ad.le_trans hle q1) (fun j hj=>by rw [q2 j (Am.2 (by omega))]; exact hg j hj) (by simp only; omega) ⟨hs.size,(hs.kn.same hsame).mono (hs.im.same hsame) q1 q2,(by rw [Az.get_app]; exact q3),(hs.im.same hsame).mono (Et (by show n0+64*i≤n0+64*(i+1); omega)),(by rw [Az.get_app]; exact q4.mono hp)⟩ u q5 (V.okB_imp hp _ q6)
   · simp only [hw,Zaz,if_false]
     have hact:(Act.mk t d).put o.dst Go.undef=Act.mk ((Act.mk t d).put o.dst Go.undef).tmps d:=OJ (I3 _ _ _)
     rw [hact]
     refine Gx hP hc hy hK r (i+1) _ _ h g _ w hd' ⟨by rw [Mu]; exact hs.size,?_,hs.mem,?_,?_⟩ hle hg hr
     · exact(hs.kn.same hsame).putM hs.size hdst (by unfold V.den; rfl)
     · exact((hs.im.same hsame).mono (Et (by omega))).putM rfl
     · exact EV.mono hs.is_ (Et (by omega))
end
section
variable {Ty:Nat→Type} [rT:∀ k,Rep (Ty k)] [RFs] [UM Ty] [UML Ty] {F:Fr} {h:Ad} {g:GE} {w:World}
open Classical in
noncomputable def ZbK (F:Fr) (g:GE) (M M1:Mo Ty) (w:World):Nat→Option Obj:=fun b=>match F.X b with
 | some x=>some x
 | none=>if ∃ i c,M i=some c∧M1 i=none∧(g i).nl=false∧(g i).b=b then w.heap[b]? else none
theorem Ag.hideF {M M1:Mo Ty} (hm:Ag F h g M w) (hsub:∀ i c,M1 i=some c→M i=some c) :
  ∃ X,Ag ⟨F.w,F.h,X⟩ h g M1 w∧∀ {F2:Fr} {d d2:List Deferred} {h2:Ad} {g2:GE} {M2:Mo Ty} {w2:World} {p:Nat→Bool} (rest:Nat→Bool),FD ⟨F.w,F.h,X⟩ F2 d d2→Ag F2 h2 g2 M2 w2→Ad.le h h2→(∀ i,p i=true→g2 i=g i)→EV p M →
   (∀ i c,M i=some c→rest i=true→M1 i=none)→∃ F3,FD F F3 d d2∧Ag F3 h2 g2 (fun i=>if rest i=true then M i else M2 i) w2:=by
 have notX:∀ {j c},M1 j=some c→(g j).nl=false→ZbK F g M M1 w (g j).b=none:=fun {j c} hc hnl=>by
  unfold ZbK
  rw [(hm.own _ _ (hsub _ _ hc) hnl).2.2.1]
  simp only
  rw [if_neg]
  rintro⟨i,c',h1,h2,h3,h4⟩
  have:=hm.inj _ _ _ _ h1 (hsub _ _ hc) h3 hnl h4
  rw [this,hc] at h2
  cases h2
 refine⟨ZbK F g M M1 w,⟨hm.below,hm.le,hm.old,hm.has,fun i c hi=>hm.cell i c (hsub i c hi),?_,fun i j c d hi hj=>hm.inj i j c d (hsub _ _ hi) (hsub _ _ hj),?_,hm.glo⟩,?_⟩
 · intro i c hi hnl
   obtain⟨q1,q2,q3,q4⟩:=hm.own _ _ (hsub _ _ hi) hnl
   exact⟨q1,q2,notX hi hnl,q4⟩
 · intro b x hx
   replace hx:ZbK F g M M1 w b=some x:=hx
   unfold ZbK at hx
   split at hx
   · rename_i y hy
     cases hx
     exact hm.ext b _ hy
   · split at hx
     · rename_i hex
       obtain⟨i,c,h1,h2,h3,rfl⟩:=hex
       obtain⟨q1,q2,q3,q4⟩:=hm.own _ _ h1 h3
       exact⟨q1,hx,q4⟩
     · cases hx
 · intro F2 d d2 h2 g2 M2 w2 p rest hfd hm2 hle hg hin hrest
   have sub:∀ b,F2.X b=none→ZbK F g M M1 w b=none:=fun b hb=>by
    cases hx:ZbK F g M M1 w b with
    | none=>rfl
    | some x=>rw [hfd.X b x hx] at hb; cases hb
   have hX3:∀ b,ZbK F g M M1 w b=none→F.X b=none:=fun b hb=>by
    unfold ZbK at hb
    split at hb
    · cases hb
    · rename_i hy; exact hy
   refine⟨⟨F.w,F.h,fun b=>match F.X b with
    | some x=>some x
    | none=>match ZbK F g M M1 w b with
     | some _=>none
     | none=>F2.X b⟩,⟨rfl,rfl,fun b x hb=>by simp only [hb],?_⟩,?_⟩
   · obtain⟨bs,e,q1,q2⟩:=hfd.ds
     refine⟨bs,e,q1,fun b hb=>?_⟩
     obtain⟨q3,q4⟩:=q2 b hb
     have q3':ZbK F g M M1 w b=none:=q3
     exact⟨hX3 b q3',by simp only [hX3 b q3',q3',q4]⟩
   have hidden:∀ {i c},M i=some c→rest i=true→(g i).nl=false→∃ x,w.heap[(g i).b]? = some x∧ZbK F g M M1 w (g i).b=some x:=fun {i c} hc hr hnl=>by
    obtain⟨q1,q2,q3,q4⟩:=hm.own _ _ hc hnl
    refine⟨_,ZaB q2,?_⟩
    unfold ZbK
    rw [q3]
    simp only
    rw [if_pos ⟨i,c,hc,hrest i c hc hr,hnl,rfl⟩,ZaB q2]
   have get:∀ {i c},(if rest i=true then M i else M2 i)=some c→(rest i=true∧M i=some c)∨M2 i=some c:=fun {i c} hi=>by
    split at hi
    · rename_i hr; exact .inl ⟨hr,hi⟩
    · exact .inr hi
   refine⟨by have:=hm2.below; rw [hfd.w] at this; exact this,by have:=hm2.le; rw [hfd.h] at this; exact this,by have:=hm2.old; rw [hfd.w,hfd.h] at this; exact this,hm2.has,?_,?_,?_,?_,by have:=hm2.glo; rw [hfd.w] at this; exact this⟩
   · intro i c hi
     rcases get hi with⟨hr,hc⟩ | hc
     · rw [hg i (hin _ _ hc).1]
       refine B2.agree hg (hin _ _ hc).2 (B2.mono hle (B2.block (fun hnl=>?_) (hm.cell _ _ hc)))
       obtain⟨x,q1,q2⟩:=hidden hc hr hnl
       rw [q1]
       exact(hm2.ext _ _ (hfd.X _ _ q2)).2.1
     · exact hm2.cell _ _ hc
   · intro i c hi hnl
     rcases get hi with⟨hr,hc⟩ | hc
     · rw [hg i (hin _ _ hc).1] at hnl ⊢
       obtain⟨q1,q2,q3,q4⟩:=hm.own _ _ hc hnl
       obtain⟨x,p1,p2⟩:=hidden hc hr hnl
       obtain⟨p3,p4,p5⟩:=hm2.ext _ _ (hfd.X _ _ p2)
       exact⟨q1,(Zag.1 p4).1,by simp only [q3,p2],p5⟩
     · obtain⟨q1,q2,q3,q4⟩:=hm2.own _ _ hc hnl
       rw [hfd.w] at q1
       refine⟨q1,q2,?_,q4⟩
       simp only [hX3 _ (sub _ q3),sub _ q3,q3]
   · intro i j c d hi hj hni hnj hb
     rcases get hi with⟨hr,hc⟩ | hc
     · rw [hg i (hin _ _ hc).1] at hni hb
       rcases get hj with⟨hr',hc'⟩ | hc'
       · rw [hg j (hin _ _ hc').1] at hnj hb
         exact hm.inj _ _ _ _ hc hc' hni hnj hb
       · obtain⟨x,p1,p2⟩:=hidden hc hr hni
         have:=(hm2.own _ _ hc' hnj).2.2.1
         rw [← hb] at this
         rw [hfd.X _ _ p2] at this
         cases this
     · rcases get hj with⟨hr',hc'⟩ | hc'
       · rw [hg j (hin _ _ hc').1] at hnj hb
         obtain⟨x,p1,p2⟩:=hidden hc' hr' hnj
         have:=(hm2.own _ _ hc hni).2.2.1
         rw [hb] at this
         rw [hfd.X _ _ p2] at this
         cases this
       · exact hm2.inj _ _ _ _ hc hc' hni hnj hb
   · intro b x hx
     simp only at hx
     have key:F2.X b=some x:=by
      split at hx
      · rename_i y hy
        cases hx
        exact hfd.X b _ (show ZbK F g M M1 w b=some _ by unfold ZbK; rw [hy])
      · split at hx
        · cases hx
        · exact hx
     have:=hm2.ext b x key
     rw [hfd.w] at this
     exact this
theorem Ag.hide {M M1:Mo Ty} (hm:Ag F h g M w) (hsub:∀ i c,M1 i=some c→M i=some c) :
  ∃ X,Ag ⟨F.w,F.h,X⟩ h g M1 w∧∀ {h2:Ad} {g2:GE} {M2:Mo Ty} {w2:World} {p:Nat→Bool} (rest:Nat→Bool),Ag ⟨F.w,F.h,X⟩ h2 g2 M2 w2→Ad.le h h2→(∀ i,p i=true→g2 i=g i)→EV p M →
   (∀ i c,M i=some c→rest i=true→M1 i=none)→Ag F h2 g2 (fun i=>if rest i=true then M i else M2 i) w2:=by
 obtain⟨X,h1,h2⟩:=hm.hideF hsub
 exact⟨X,h1,fun rest q1 q2 q3 q4 q5=>let ⟨F3,e1,e2⟩:=h2 rest (FD.refl _ []) q1 q2 q3 q4 q5; e2.back e1⟩
end
section
variable {β:Type}
structure Afb (f:(Nat→β)→(Nat→β)) (W:Nat→Bool):Prop where
 off:∀ X j,W j=false→f X j=X j
 on:∀ X Y j,W j=true→f X j=f Y j
def C3 (D:Nat→Bool):Nat→List (((Nat→β)→(Nat→β))×(Nat→Bool))→(Nat→β)→(Nat→β)
 | _,[],X=>X
 | i,f::fs,X=>C3 D (i+1) fs (if D i=true then f.1 X else X)
def AcV (fs:List (((Nat→β)→(Nat→β))×(Nat→Bool))):Prop:=∀ f∈fs,Afb f.1 f.2
theorem Ci {D D':Nat→Bool} {j:Nat}:∀ {fs:List (((Nat→β)→(Nat→β))×(Nat→Bool))} {i:Nat} {X Y:Nat→β},AcV fs→(∀ k f,fs[k]? = some f→D (i+k)≠D' (i+k)→f.2 j=false)→X j=Y j→C3 D i fs X j=C3 D' i fs Y j
 | [],i,X,Y,_,_,hx=>hx
 | f::fs,i,X,Y,hl,hd,hx=>by
  unfold C3
  have hf:=hl f (by simp)
  refine Ci (fun f hf=>hl f (by simp [hf])) (fun k f' hk hne=>hd (k+1) f' (by simpa using hk) (by rwa [show i+(k+1)=i+1+k by omega])) ?_
  have same:f.1 X j=f.1 Y j:=by
   cases hw:f.2 j with
   | true=>exact hf.on X Y j hw
   | false=>rw [hf.off X j hw,hf.off Y j hw]; exact hx
  by_cases hdd:D i=D' i
  · rw [hdd]
    split
    · exact same
    · exact hx
  · have hw:=hd 0 f rfl (by simpa using hdd)
    split <;> split <;> first | exact same | exact hx | (rw [hf.off _ _ hw]; exact hx)
theorem Qa {D:Nat→Bool} {j:Nat} {f:((Nat→β)→(Nat→β))×(Nat→Bool)} {Z:Nat→β}:∀ {fs:List (((Nat→β)→(Nat→β))×(Nat→Bool))} {i k:Nat} {X:Nat→β},AcV fs→fs[k]? = some f→D (i+k)=true→f.2 j=true→(∀ k' f',fs[k']? = some f'→k<k'→D (i+k')=true→f'.2 j=false)→C3 D i fs X j=f.1 Z j
 | [],i,k,X,_,hk,_,_,_=>by simp at hk
 | f0::fs,i,0,X,hl,hk,hD,hw,hlater=>by
  simp at hk
  subst hk
  unfold C3
  rw [if_pos (by simpa using hD)]
  have hf:=hl f0 (by simp)
  have:C3 D (i+1) fs (f0.1 X) j=C3 (fun _=>false) (i+1) fs (f0.1 Z) j:=by
   refine Ci (fun f hf=>hl f (by simp [hf])) (fun k' f' hk' hne=>?_) (hf.on X Z j hw)
   refine hlater (k'+1) f' (by simpa using hk') (by omega) ?_
   rw [show i+(k'+1)=i+1+k' by omega]
   cases hx:D (i+1+k') with
   | true=>rfl
   | false=>exact absurd hx hne
  rw [this]
  have none:∀ (fs:List (((Nat→β)→(Nat→β))×(Nat→Bool)))(i:Nat)(X:Nat→β),C3 (fun _=>false) i fs X=X:=by
   intro fs
   induction fs with
   | nil=>intro i X; rfl
   | cons f fs ih=>intro i X; unfold C3; rw [if_neg (by simp)]; exact ih _ _
  rw [none]
 | f0::fs,i,k+1,X,hl,hk,hD,hw,hlater=>by
  unfold C3
  exact Qa (fun f hf=>hl f (by simp [hf])) (by simpa using hk) (by rwa [show i+1+k=i+(k+1) by omega]) hw (fun k' f' hk' hlt hD'=>hlater (k'+1) f' (by simpa using hk') (by omega) (by rwa [show i+(k'+1)=i+1+k' by omega]))
end
section
variable {Ty:Nat→Type}
def Wp (rc:Rc Ty):((Nat→Option (A7 Ty))→(Nat→Option (A7 Ty)))×(Nat→Bool):=(fun M=>Mo.app M rc.ws,fun j=>A8 (Iz rc.ws) j)
def Zw (o:Oper) (rc:Rc Ty):((Nat→Option (V Ty))→(Nat→Option (V Ty)))×(Nat→Bool):=(fun X k=>if A8 (Jd o) k=true then some rc.v else X k,fun k=>A8 (Jd o) k)
def F6:List Oper→List (Rc Ty)→List (((Nat→Option (V Ty))→(Nat→Option (V Ty)))×(Nat→Bool))
 | o::os,r::rs=>Zw o r::F6 os rs
 | _,_=>[]
theorem Abb:∀ {ws:List (Nat×Option (A7 Ty))} {M M':Mo Ty} {j:Nat},j∈ws.map (·.1)→Mo.app M ws j=Mo.app M' ws j
 | [],M,M',j,hj=>by simp at hj
 | (i,c)::r,M,M',j,hj=>by
  unfold Mo.app
  by_cases hr:j∈r.map (·.1)
  · exact Abb hr
  · have hn:∀ x∈r,x.1≠j:=fun x hx he=>hr (ZaV.2 ⟨x,hx,he⟩)
    rw [Mo.app_not hn,Mo.app_not hn]
    simp only [Zbm,Zam] at hj
    rcases hj with rfl | hj
    · simp [Mo.put]
    · exact absurd hj hr
theorem AcW (rc:Rc Ty):Afb (Wp rc).1 (Wp rc).2 where
 off:=fun X j hj=>by
  refine Mo.app_not fun x hx he=>?_
  have:A8 (Iz rc.ws) j=true:=Be.2 (by rw [← he]; exact List.mem_map_of_mem hx)
  simp only [Wp] at hj
  rw [this] at hj
  cases hj
 on:=fun X Y j hj=>Abb (Be.1 hj)
theorem AcX (o:Oper) (rc:Rc Ty):Afb (Zw o rc).1 (Zw o rc).2 where
 off:=fun X j hj=>by
  simp only [Zw] at hj ⊢
  rw [hj]
  rfl
 on:=fun X Y j hj=>by
  simp only [Zw] at hj ⊢
  rw [hj]
  rfl
theorem JC (rs:List (Rc Ty)):AcV (rs.map Wp):=fun f hf=>by
 obtain⟨rc,_,rfl⟩:=ZaV.1 hf
 exact AcW rc
theorem HU:∀ (os:List Oper)(rs:List (Rc Ty)),AcV (F6 os rs)
 | [],rs,f,hf=>by simp [F6] at hf
 | o::os,[],f,hf=>by simp [F6] at hf
 | o::os,r::rs,f,hf=>by
  unfold F6 at hf
  rcases Zam.1 hf with rfl | hf
  · exact AcX o r
  · exact HU os rs f hf
theorem HV:∀ {os:List Oper} {rs:List (Rc Ty)} {k:Nat} {f},(F6 os rs)[k]? = some f→∃ o r,os[k]? = some o∧rs[k]? = some r∧f=Zw o r
 | [],rs,k,f,h=>by simp [F6] at h
 | o::os,[],k,f,h=>by simp [F6] at h
 | o::os,r::rs,0,f,h=>by simp [F6] at h; exact⟨o,r,rfl,rfl,h.symm⟩
 | o::os,r::rs,k+1,f,h=>by simp only [F6,List.getElem?_cons_succ] at h; simpa using HV h
theorem Yi:∀ {os:List Oper} {rs:List (Rc Ty)} {k:Nat} {o r},os[k]? = some o→rs[k]? = some r→(F6 os rs)[k]? = some (Zw o r)
 | o::os,r::rs,0,o',r',h1,h2=>by simp at h1 h2; subst h1; subst h2; rfl
 | o::os,r::rs,k+1,o',r',h1,h2=>by simp only [F6,List.getElem?_cons_succ]; exact Yi (by simpa using h1) (by simpa using h2)
 | [],_,k,o',r',h1,_=>by simp at h1
 | o::os,[],k,o',r',_,h2=>by simp at h2
theorem I4 {α:Type} (ns:List Nat):∀ (l:List (Nat×α))(k:Nat),AL.get (J4 ns l) k=if A8 ns k=true then AL.get l k else none
 | [],k=>by unfold J4 AL.get; split <;> rfl
 | (i,x)::r,k=>by
  unfold J4
  have hc:AL.get ((i,x)::r) k=bif Nat.beq i k then some x else AL.get r k:=rfl
  cases hm:A8 ns i with
  | true =>
   rw [Zac]
   show(bif Nat.beq i k then some x else AL.get (J4 ns r) k)=_
   rw [hc]
   cases hb:Nat.beq i k with
   | true=>have:=Zab hb; subst this; rw [if_pos hm]; rfl
   | false=>rw [Zad,Zad]; exact I4 ns r k
  | false =>
   rw [Zad,I4 ns r k,hc]
   cases hb:Nat.beq i k with
   | true=>have:=Zab hb; subst this; rw [hm]; rfl
   | false=>rfl
theorem Qb (m:List (Nat×V Ty)) (o:Oper) (rc:Rc Ty) (k:Nat):AL.get (putM m o.dst rc.v) k=(Zw o rc).1 (AL.get m) k:=by
 unfold Zw Jd
 cases o.dst with
 | none=>rfl
 | some d =>
  show(bif Nat.beq d k then some rc.v else AL.get m k)=if A8 [d] k=true then some rc.v else AL.get m k
  unfold A8 A8
  cases Nat.beq d k <;> rfl
def KH (ops:Array Oper) (X:Nat→Option (V Ty)) (o:Oper):Option Bool:=match o.guard with
 | none=>some true
 | some (j,w)=>match ops[j]? with
  | some oj=>match oj.dst with
   | some d=>match X d with
    | some (.bool b)=>some (b == w)
    | some .undef=>some false
    | _=>none
   | none=>none
  | none=>none
theorem Zx {ops:Array Oper} {o:Oper} {m:List (Nat×V Ty)} {ρ:Type} {yes no:List (Nat×V Ty)→Tr ρ} {x:ρ} (hr:(Sk ops m o yes no).runK some=some x) :
  ∃ m',Ss m' m∧((KH ops (AL.get m) o=some true∧(yes m').runK some=some x)∨(KH ops (AL.get m) o=some false∧(no m').runK some=some x)):=by
 unfold Sk at hr
 split at hr
 · rename_i hg
   exact⟨m,fun _=>rfl,.inl ⟨by simp only [KH,hg],hr⟩⟩
 · rename_i j wnt hg
   split at hr
   · rename_i oj hoj
     split at hr
     · rename_i dd hd
       split at hr
       · rename_i b hb
         rw [Tr.runK_br] at hr
         have hsame:∀ b',b=b'→Ss ((dd,.bool b')::m) m:=fun b' hbb k=>by
          subst hbb
          show(bif Nat.beq dd k then some (V.bool b) else AL.get m k)=AL.get m k
          cases hk2:Nat.beq dd k with
          | true=>have:=Zab hk2; subst this; exact hb.symm
          | false=>rfl
         have hwf:KH ops (AL.get m) o=some (b == wnt):=by simp only [KH,hg,hoj,hd,hb]
         rw [hwf]
         cases wnt <;> cases b
         · exact⟨_,hsame _ rfl,.inl ⟨rfl,hr⟩⟩
         · exact⟨_,hsame _ rfl,.inr ⟨rfl,hr⟩⟩
         · exact⟨_,hsame _ rfl,.inr ⟨rfl,hr⟩⟩
         · exact⟨_,hsame _ rfl,.inl ⟨rfl,hr⟩⟩
       · rename_i hb
         exact⟨m,fun _=>rfl,.inr ⟨by simp only [KH,hg,hoj,hd,hb],hr⟩⟩
       · cases hr
     · cases hr
   · cases hr
def Su [RFs] [UV Ty] [UM Ty] (P:Program) (N:Nat) (call:AT Ty) (ops:Array Oper) (n0 j:Nat) (o:Oper) (rc:Rc Ty) (X:Nat→Option (V Ty)) (M:Mo Ty):Prop :=
 Sj N o.dst=true∧((KH ops X o=some true∧∃ m' s',(∀ x,AL.get m' x=if A8 (Vi o.op.operands.toList) x=true then X x else none)∧(∀ x,AL.get s' x=if A8 rc.rd x=true then M x else none) ∧
   (O2 P call (n0+64*j) m' s' o.op).runK some=some (.ok rc.v rc.ws)∧Zk (n0+64*j) rc.rd (Iz rc.ws)=true) ∨
  (KH ops X o=some false∧rc.v=.undef∧rc.ws=[]))
theorem FI {β:Type}:∀ (fs:List (((Nat→β)→(Nat→β))×(Nat→Bool)))(i:Nat)(X:Nat→β),C3 (fun a=>decide (a<i)) i fs X=X:=by
 have key:∀ (fs:List (((Nat→β)→(Nat→β))×(Nat→Bool)))(i n:Nat)(X:Nat→β),n≤i→C3 (fun a=>decide (a<n)) i fs X=X:=by
  intro fs
  induction fs with
  | nil=>intro i n X _; rfl
  | cons f fs ih =>
   intro i n X hn
   unfold C3
   rw [if_neg (by simp; omega)]
   exact ih (i+1) n X (by omega)
 exact fun fs i X=>key fs i i X (Zal _)
theorem Lo [RFs] [UV Ty] [UM Ty] {P:Program} {N:Nat} {call:AT Ty} {ops:Array Oper} {n0:Nat}:∀ {r:List Oper} {i:Nat} {m:List (Nat×V Ty)} {s:Az Ty} {rs:List (Rc Ty)},(WZ P N call ops n0 i r m s).runK some=some rs →
  rs.length=r.length∧∀ (k:Nat)(o:Oper)(rc:Rc Ty),r[k]? = some o→rs[k]? = some rc→Su P N call ops n0 (i+k) o rc (C3 (fun a=>decide (a<i+k)) i (F6 r rs) (AL.get m)) (C3 (fun a=>decide (a<i+k)) i (rs.map Wp) (AL.get s))
 | [],i,m,s,rs,hr=>by cases hr; exact⟨rfl,by simp⟩
 | o::r,i,m,s,rs,hr=>by
  unfold WZ at hr
  cases hd:Sj N o.dst with
  | false=>rw [hd] at hr; cases hr
  | true =>
   rw [hd,Zac] at hr
   obtain⟨m',hsame,hc⟩:=Zx hr
   have fin:∀ {rc:Rc Ty} {rs':List (Rc Ty)} {m1:List (Nat×V Ty)} {s1:Az Ty},rs=rc::rs'→(WZ P N call ops n0 (i+1) r m1 s1).runK some=some rs'→(∀ k,AL.get m1 k=(Zw o rc).1 (AL.get m) k)→AL.get s1=(Wp rc).1 (AL.get s)→Su P N call ops n0 i o rc (AL.get m) (AL.get s) →
     rs.length=(o::r).length∧∀ (k:Nat)(o':Oper)(rc':Rc Ty),(o::r)[k]? = some o'→rs[k]? = some rc'→Su P N call ops n0 (i+k) o' rc' (C3 (fun a=>decide (a<i+k)) i (F6 (o::r) rs) (AL.get m)) (C3 (fun a=>decide (a<i+k)) i (rs.map Wp) (AL.get s)):=by
    intro rc rs' m1 s1 hrs hrun hm1 hs1 hfact
    subst hrs
    obtain⟨q1,q2⟩:=Lo hrun
    refine⟨by simp [q1],fun k o' rc' ho hrc=>?_⟩
    cases k with
    | zero =>
     simp at ho hrc
     subst ho; subst hrc
     rw [Nat.add_zero,FI,FI]
     exact hfact
    | succ k =>
     have:=q2 k o' rc' (by simpa using ho) (by simpa using hrc)
     have e1:C3 (fun a=>decide (a<i+(k+1))) i (F6 (o::r) (rc::rs')) (AL.get m)=C3 (fun a=>decide (a<i+1+k)) (i+1) (F6 r rs') (AL.get m1):=by
      show C3 _ (i+1) (F6 r rs') (if decide (i<i+(k+1))=true then(Zw o rc).1 (AL.get m) else AL.get m)=_
      rw [if_pos (by simp),show i+(k+1)=i+1+k by omega]
      congr 1
      exact(funext hm1).symm
     have e2:C3 (fun a=>decide (a<i+(k+1))) i ((rc::rs').map Wp) (AL.get s)=C3 (fun a=>decide (a<i+1+k)) (i+1) (rs'.map Wp) (AL.get s1):=by
      show C3 _ (i+1) (rs'.map Wp) (if decide (i<i+(k+1))=true then(Wp rc).1 (AL.get s) else AL.get s)=_
      rw [if_pos (by simp),show i+(k+1)=i+1+k by omega,hs1]
     rw [e1,e2,show i+(k+1)=i+1+k by omega]
     exact this
   rcases hc with⟨hw,hr⟩ | ⟨hw,hr⟩
   · simp only [Vh] at hr
     obtain⟨oc,h1,h2⟩:=Tr.run_bind hr
     cases oc with
     | pan v ws=>cases h2
     | ok v ws =>
      simp only [V.frc_eq,Ti,Th] at h2
      cases hsub:Zk (n0+64*i) (AdZ m' s o.op) (Iz ws) with
      | false=>rw [hsub] at h2; cases h2
      | true =>
       rw [hsub,Zac] at h2
       obtain⟨rs',h3,h4⟩:=Tr.run_bind h2
       cases h4
       refine fin rfl h3 (fun k=>?_) (by rw [Az.get_app]; rfl) ⟨hd,.inl ⟨hw,_,_,fun x=>?_,fun x=>I4 _ _ _,h1,hsub⟩⟩
       · rw [Qb m' o ⟨v,ws,AdZ m' s o.op⟩]
         have:AL.get m' = AL.get m:=funext hsame
         rw [this]
       · rw [I4,hsame x]
   · obtain⟨rs',h3,h4⟩:=Tr.run_bind hr
     cases h4
     refine fin rfl h3 (fun k=>?_) rfl ⟨hd,.inr ⟨hw,rfl,rfl⟩⟩
     rw [Qb m' o ⟨.undef,[],[]⟩]
     have:AL.get m' = AL.get m:=funext hsame
     rw [this]
theorem Nx {n0:Nat}:∀ {r:List Oper} {rs:List (Rc Ty)} {i:Nat} {m:List (Nat×V Ty)} {s:Az Ty},rs.length=r.length→∃ mf sf,No n0 i r rs m s=⟨.normal,⟨mf,sf,n0+64*(i+r.length)⟩⟩∧AL.get mf=C3 (fun _=>true) i (F6 r rs) (AL.get m)∧AL.get sf=C3 (fun _=>true) i (rs.map Wp) (AL.get s)
 | [],[],i,m,s,_=>⟨m,s,rfl,rfl,rfl⟩
 | [],_::_,i,m,s,h=>by simp at h
 | _::_,[],i,m,s,h=>by simp at h
 | o::r,rc::rs,i,m,s,h=>by
  obtain⟨mf,sf,h1,h2,h3⟩:=Nx (n0:=n0) (r:=r) (rs:=rs) (i:=i+1) (m:=putM m o.dst rc.v) (s:=s.app rc.ws) (by simpa using h)
  refine⟨mf,sf,?_,?_,?_⟩
  · show No n0 (i+1) r rs _ _=_
    rw [h1]
    congr 2
    simp only [Zas]
    congr 1
    omega
  · rw [h2]
    show _=C3 _ (i+1) (F6 r rs) (if true=true then(Zw o rc).1 (AL.get m) else AL.get m)
    rw [if_pos rfl]
    congr 1
    exact funext fun k=>Qb m o rc k
  · rw [h3,Az.get_app]
    rfl
end
theorem V4:∀ (l:List Nat)(v:Nat)(b:Nat),AR (l++[v]) b=if b<l.length then AR l b else if b=l.length then v else 0
 | [],v,0=>rfl
 | [],v,b+1=>by simp [AR]
 | x::l,v,0=>by simp [AR]
 | x::l,v,b+1=>by
  show AR (l++[v]) b=_
  rw [V4 l v b]
  simp only [Zas,Nat.add_lt_add_iff_right,Nat.add_right_cancel_iff]
  rfl
theorem Lp {ES:List (List Nat)} {D:Nat→Bool} (hcl:∀ (b:Nat)(es:List Nat),ES[b]? = some es→D b=true→∀ e∈es,D e=true) (hback:∀ (b:Nat)(es:List Nat),ES[b]? = some es→∀ e∈es,e<b) :
  ∀ (todo done:List (List Nat))(acc:List Nat),ES=done++todo→acc.length=done.length→(∀ (b:Nat)(es:List Nat),ES[b]? = some es→b<acc.length→(∀ e∈es,D e=true)→∀ a,Nat.testBit (AR acc b) a=true→D a=true) →
   ∀ (b:Nat)(es:List Nat),ES[b]? = some es→(∀ e∈es,D e=true)→∀ a,Nat.testBit (AR (Tj todo acc) b) a=true→D a=true
 | [],done,acc,hE,hl,hacc,b,es,hb,he,a,ha=>by
  refine hacc b es hb ?_ he a ha
  have:=(Zaq.1 hb).1
  rw [hE,Zbd] at this
  omega
 | es0::todo,done,acc,hE,hl,hacc,b,es,hb,he,a,ha=>by
  unfold Tj at ha
  refine Lp hcl hback todo (done++[es0]) (acc++[es0.foldl (fun s e=>s ||| 2 ^ e ||| AR acc e) 0]) (by simp [hE]) (by simp [hl]) ?_ b es hb he a ha
  intro b es hb hlt he a ha
  rw [V4] at ha
  split at ha
  · rename_i hlt'; exact hacc b es hb hlt' he a ha
  · split at ha
    · rename_i _ hbl
      have hes:es=es0:=by
       have:ES[b]? = some es0:=by rw [hE,hbl,hl]; simp
       rw [hb] at this
       exact Option.some.inj this
      subst hes
      have key:∀ (l:List Nat)(s:Nat),(∀ e∈l,e∈es)→(∀ a,Nat.testBit s a=true→D a=true)→∀ a,Nat.testBit (l.foldl (fun s e=>s ||| 2 ^ e ||| AR acc e) s) a=true→D a=true:=by
       intro l
       induction l with
       | nil=>intro s _ hs a ha; exact hs a ha
       | cons e l ih =>
        intro s hl hs a ha
        refine ih _ (fun e he=>hl e (by simp [he])) (fun a ha=>?_) a ha
        rw [Nat.testBit_or,Nat.testBit_or,ZaL,ZaL] at ha
        have hem:=hl e (by simp)
        rcases ha with(ha | ha) | ha
        · exact hs a ha
        · rw [Nat.testBit_two_pow] at ha
          have:e=a:=by simpa using ha
          rw [← this]; exact he e hem
        · have helt:=hback b es hb e hem
          have hee:∃ ee,ES[e]? = some ee:=⟨_,Zao (by have:=(Zaq.1 hb).1; omega)⟩
          obtain⟨ee,hee⟩:=hee
          exact hacc e ee hee (by omega) (hcl e ee hee (he e hem)) a ha
      exact key es 0 (fun e he=>he) (fun a ha=>by simp at ha) a ha
    · simp at ha
end Go.Proofs.YtkpgggfibljflaaGreatDoor
