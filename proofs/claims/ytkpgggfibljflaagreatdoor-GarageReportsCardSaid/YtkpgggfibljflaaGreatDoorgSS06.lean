/- What a proof leans on: a machine that steps through code, and what functions compute. -/
import Derived.Test.YtkpgggfibljflaaGreatDoorgSS05
import Derived.Laws.BytesString
import Derived.Lib.ConvBytes
import Derived.Scope
set_option linter.all false
namespace Go.Proofs.YtkpgggfibljflaaGreatDoor
open Go Go.RowKit
open Rep (rep)
open Go.ChangeMaps (setBlock)
section
variable {Ty:Nat→Type} [rT:∀ k,Rep (Ty k)] [RFs] [UM Ty] [UML Ty] {P:Program} {F:Fr} {h:Ad} {g:GE} {M:Mo Ty} {w w':World} {s:A7 Ty} {base:Nat}
variable {K:Act→World→Prop} {Q:Exit→Act→World→Prop} {t:Array Value} {d:List Deferred} {m:List (Nat×V Ty)} {o:Oper}
theorem Al.newSettled {us:List Value} (hm:Al F h g M w) (hg:w.grownBy w' none) (hlt:w.heap.size<w'.heap.size) (hone:∀ u∈us,u.oneCell' = true) (hc:∀ o u,us[o]? = some u→w'.cell? ⟨w.heap.size,o,none⟩=some u) :
  ∃ h',Ad.le h h'∧Al F h' g M w'∧∀ o u,us[o]? = some u→h' w.heap.size o=some u:=by
 have hm2:=hm.grow hg
 have hno:∀ o,h w.heap.size o=none:=fun o=>by
  cases hx:h w.heap.size o with
  | none=>rfl
  | some x=>have:=hm.lt hx; omega
 have hle:Ad.le h (fun b o=>if b=w.heap.size then us[o]? else h b o):=fun b o v hv=>by
  have hne:b≠w.heap.size:=fun hh=>by rw [hh,hno o] at hv; cases hv
  simp only [hne,if_false]; exact hv
 refine⟨fun b o=>if b=w.heap.size then us[o]? else h b o,hle,⟨hm2.below,Ad.le_trans hm2.le hle,?_,?_,fun i c hi=>(hm2.cell i c hi).mono hle,?_,hm2.inj,?_,hm2.glo⟩,fun o u hu=>by simp [hu]⟩
 · intro b o x hx
   replace hx:(if b=w.heap.size then us[o]? else h b o)=some x:=hx
   split at hx
   · rename_i hh; exact .inr (by rw [hh]; exact hm.size)
   · exact hm2.old b o x hx
 · intro b o v hv
   replace hv:(if b=w.heap.size then us[o]? else h b o)=some v:=hv
   split at hv
   · rename_i hh
     rw [hh]
     exact⟨hlt,Iy (hc o v hv) (Ew (hone v (ZaB hv)))⟩
   · exact hm2.has b o v hv
 · intro i c hi hn
   obtain⟨h1,h2,h3,h4⟩:=hm2.own i c hi hn
   refine⟨h1,h2,h3,fun o=>?_⟩
   have:=(hm.own i c hi hn).2.1
   show(if (g i).b=w.heap.size then us[o]? else h (g i).b o)=none
   rw [if_neg (by omega)]; exact h4 o
 · intro b x hx
   obtain⟨h1,h2,h3⟩:=hm2.ext b x hx
   refine⟨h1,h2,fun o=>?_⟩
   have:=(Zak.1 (hm.ext b x hx).2.1).1
   show(if b=w.heap.size then us[o]? else h b o)=none
   rw [if_neg (by omega)]; exact h3 o
variable [UV Ty] [UL Ty]
theorem Tw {x:V Ty} {u:Value} (hx:x.den g h u):∃ us,V.dens g h x.kcells us∧(if x.aggB=true then u=.agg us.toArray else us=[u]):=by
 cases x
 case agg cs =>
  unfold V.den at hx
  obtain⟨us,e,h1⟩:=hx
  exact⟨us,h1,e⟩
 all_goals
  refine⟨[u],?_,rfl⟩
  show V.dens g h [_] [u]
  unfold V.dens V.dens
  exact⟨u,[],rfl,hx,rfl⟩
theorem Wb {k:Nat} {kx:V Ty} {u:Value} {kk:Ty k} (hk:UM.isK Ty k=true) (hx:kx.den g h u) (ha:(bif UM.ag Ty k then kx.aggB else !kx.aggB)=true) (hp:UV.pack k kx.kcells=some kk):u=UM.kv k kk:=by
 obtain⟨us,h1,h2⟩:=Tw hx
 have hr:=UL.pack_rep g h k _ _ _ hp h1
 have hv:=UML.kv_rep k h kk us hk hr
 cases hag:UM.ag Ty k with
 | true =>
  rw [hag] at ha
  rw [if_pos hag] at hv
  rw [if_pos (by simpa using ha)] at h2
  rw [h2,hv]
 | false =>
  rw [hag] at ha
  rw [if_neg (by rw [hag]; simp)] at hv
  have:kx.aggB=false:=by simpa using ha
  rw [this,if_neg (by simp)] at h2
  rw [h2] at hv
  simpa using hv
theorem AdG {v:Nat} {vx:V Ty} {u:Value} {vv:Ty v} (hx:vx.den g h u) (ha:(bif UM.ag Ty v then vx.aggB else !vx.aggB)=true) (hp:UV.pack v vx.kcells=some vv) : @VRep.rv (Ty v) (UU Ty v) h vv u:=by
 obtain⟨us,h1,h2⟩:=Tw hx
 have hr:=UL.pack_rep g h v _ _ _ hp h1
 show if UM.ag Ty v=true then ∃ us,u=.agg us.toArray∧rep h vv us else rep h vv [u]
 cases hag:UM.ag Ty v with
 | true =>
  rw [hag] at ha
  rw [if_pos (by simpa using ha)] at h2
  rw [if_pos rfl]
  exact⟨us,h2,hr⟩
 | false =>
  rw [hag] at ha
  have:vx.aggB=false:=by simpa using ha
  rw [this,if_neg (by simp)] at h2
  rw [if_neg (by simp),← h2]
  exact hr
theorem Wc {v:Nat} {x:Ty v} {u:Value} (hu : @VRep.rv (Ty v) (UU Ty v) h x u):(VT v x).den g h u:=by
 replace hu:if UM.ag Ty v=true then ∃ us,u=.agg us.toArray∧rep h x us else rep h x [u]:=hu
 unfold VT
 cases hag:UM.ag Ty v with
 | true =>
  rw [if_pos hag] at hu
  obtain⟨us,e,hr⟩:=hu
  show(V.agg (UV.view v x)).den g h u
  unfold V.den
  exact⟨us,e,UL.view_den g h v x us hr⟩
 | false =>
  rw [if_neg (by rw [hag]; simp)] at hu
  have hd:=UL.view_den g h v x [u] hu
  have hl:=V.dens_len hd
  rw [Zad]
  split
  · rename_i y hy
    rw [hy] at hd
    unfold V.dens at hd
    obtain⟨u',us',e,h1,_⟩:=hd
    cases e
    exact h1
  · rename_i hne
    exfalso
    match hv:UV.view v x,hl with
    | [y],_=>exact hne y hv
omit [RFs] [UML Ty] in
theorem Zu {p:Nat→Bool} {v:Nat} {x:Ty v}:(VT v x).okB p=true:=by
 have ho:=UL.view_ok p v x
 unfold VT
 cases UM.ag Ty v with
 | true=>exact ho
 | false =>
  rw [Zad]
  split
  · rename_i y hy
    rw [hy] at ho
    unfold V.oksB at ho
    exact(As ho).1
  · rfl
theorem AdH {v:Nat} {z:Ty v} (w:World) (ha:AhB (Ty:=Ty) P v=true) (hz:Ze (Ty:=Ty) P v=some z):∃ u,(zeroValue v).run P w=.ok u w∧@VRep.rv (Ty v) (UU Ty v) h z u:=by
 obtain⟨u,us,q1,q2,q3,i,q4,q5⟩:=QY (h:=h) w hz
 refine⟨u,q1,?_⟩
 show if UM.ag Ty v=true then ∃ us,u=.agg us.toArray∧rep h z us else rep h z [u]
 unfold AhB at ha
 rw [q4] at ha
 simp only [q5] at ha
 split at ha
 · rename_i cs hcs
   cases hcs
   rw [if_pos ha]
   exact⟨us,by rw [← q3]; simp [Value.cells],q2⟩
 · cases ha
 · rename_i z' h1 h2 hcs
   cases hcs
   rw [if_neg (by simpa using ha)]
   have:u.cells.toList=[u]:=by
    cases u <;> first | rfl | exact absurd rfl (h1 _) | exact absurd rfl (h2 _)
   rw [this] at q3
   rw [q3]; exact q2
 · cases ha
theorem Al.mp {i k v:Nat} {l:List (Ty k×Ty v)} (hm:Al F h g M w) (hi:M i=some (.mp k v l)):(g i).nl=false∧∃ es c,w.heap[(g i).b]? = some (.map es c)∧VQ h es.toList c k v l:=hm.cell i _ hi
variable [UMP Ty P]
theorem Zv {T:TypeId} {x i:Operand} {ok:Bool} {call:Bi Ty} {oc:Oc Ty} (hop:o.op=.lookup T x i ok) (hm:Al F h g (AL.get s) w) {p:Nat→Bool} (hf:Eb p base) (hin:G1 p (AL.get s)) (he:NF g h (Ih m) ⟨t,d⟩) (hi:R8 p (Ih m)) (hr:(R5 P call base m s (.lookup T x i ok)).runK some=some oc) (hK:Zn F h g p base (AL.get s) K Q ⟨t,d⟩ o.dst oc):o.wp P ⟨t,d⟩ w K Q:=by
 rw [R5] at hr
 split at hr
 · rename_i xv kx hx hkx
   have hxe:=he x _ hx
   have hke:=he i _ hkx
   unfold Aiq at hr
   split at hr
   · rename_i KT E j hT
     split at hr
     · rename_i k v l hcell
       cases hb:(Nat.beq KT k && Nat.beq E v && AhB (Ty:=Ty) P v && (bif UM.ag Ty k then kx.aggB else !kx.aggB)) with
       | false=>rw [hb] at hr; cases hr
       | true =>
        rw [hb,Zab] at hr
        obtain⟨hb,b4⟩:=As hb
        obtain⟨hb,b3⟩:=As hb
        obtain⟨b1,b2⟩:=As hb
        obtain rfl:=Zac b1
        obtain rfl:=Zac b2
        split at hr
        · rename_i kk z hkk hz
          cases hr
          obtain⟨hnl,es,c,hheap,hkey,hents⟩:=hm.mp hcell
          unfold V.den at hxe
          have hkv:=Wb hkey hke b4 hkk
          obtain⟨zu,hz1,hz2⟩:=AdH (h:=h) w b3 hz
          have key:∃ u,(Instr.lookup T ((Act.mk t d).eval x) ((Act.mk t d).eval i) ok).run P w=.ok (if ok then .tuple #[u,.bool (Ct (UM.keq KT) l kk)] else u) w∧@VRep.rv (Ty E) (UU Ty E) h (AG (UM.keq KT) l kk z) u:=by
           rw [hxe,hkv]
           rcases @Abl P KT (Ty KT) (Ty E) (WW hkey) (Ah6 hkey) (UU Ty E) h w T E _ c es l kk zu hT (UMP.kl KT hkey) hheap hents hz1 ok with⟨a1,a2⟩ | ⟨y,u,a1,a2,a3⟩
           · rw [Qf hkey] at a1
             refine⟨zu,?_,?_⟩
             · unfold Ct; rw [a1]; exact a2
             · unfold AG; rw [a1]; exact hz2
           · rw [Qf hkey] at a1
             refine⟨u,?_,?_⟩
             · unfold Ct; rw [a1]; exact a3
             · unfold AG; rw [a1]; exact a2
          obtain⟨u,hrun,hu⟩:=key
          unfold Oper.wp execOp
          simp only [hop,Sem.run_bind,hrun,Result.andThen_ok,Sem.run_pure]
          refine hK h g w _ (Ad.le_refl _) (fun _ _=>rfl) hm hin.up ?_ ?_
          · cases ok with
            | true =>
             show(V.tup _).den g h (Value.tuple _)
             unfold V.den V.dens V.dens V.dens
             exact⟨[u,.bool (Ct (UM.keq KT) l kk)],rfl,_,_,rfl,Wc hu,_,_,rfl,by unfold V.den; rfl,rfl⟩
            | false=>exact Wc hu
          · cases ok with
            | true =>
             show(V.tup _).okB _=true
             unfold V.okB V.oksB V.oksB V.oksB
             rw [Zu]; rfl
            | false=>exact Zu
        · cases hr
     · cases hr
   · cases hr
 · cases hr
omit [UMP Ty P] in
theorem UY {T:TypeId} {r:Option Operand} {call:Bi Ty} {oc:Oc Ty} (hop:o.op=.makeMap T r) (hm:Al F h g (AL.get s) w) {p:Nat→Bool} (hf:Eb p base) (hin:G1 p (AL.get s)) (hr:(R5 P call base m s (.makeMap T r)).runK some=some oc) (hK:Zn F h g p base (AL.get s) K Q ⟨t,d⟩ o.dst oc):o.wp P ⟨t,d⟩ w K Q:=by
 cases r with
 | some r =>
  exfalso
  obtain⟨v,h1,_⟩:=Tr.run_bind (show((Cu P (Ih m) (AL.get s) (.makeMap T (some r))).bind fun v=>(.ret (.ok v []):Tr (Oc Ty))).runK some=some oc from hr)
  cases h1
 | none =>
  rw [R5] at hr
  split at hr
  · rename_i KT E hT
    cases hk:UM.isK Ty KT with
    | false=>rw [hk] at hr; cases hr
    | true =>
     rw [hk,Zab] at hr
     cases hr
     have hrun:(Instr.makeMap T none).run P w=.ok (.map (some w.heap.size)) (w.alloc (.map #[] 0)):=by
      unfold Instr.makeMap
      rfl
     unfold Oper.wp execOp
     simp only [hop,Option.map_none,Sem.run_bind,hrun,Result.andThen_ok,Sem.run_pure]
     refine hK h (He g base ⟨w.heap.size,0,0,false⟩) _ _ (Ad.le_refl _) (fun i hi=>DM hf hi) ?_ ?_ ?_ ?_
     · exact hm.newB hf hin (World.grownBy_alloc w _ none) (Zas _) (by simp) ⟨rfl,#[],0,JP w _,hk,@Qd.nil (Ty KT) (Ty E) (WW hk) (UU Ty E) h 0⟩
     · exact hin.up.put EN rfl
     · unfold V.den; rw [Cb]
     · unfold V.okB; exact EN
  · cases hr
theorem Tx {T:TypeId} {x k y:Operand} {oc:Oc Ty} (hop:o.op=.mapUpdate T x k y∨o.op=.insert T x k y) (hm:Al F h g (AL.get s) w) {p:Nat→Bool} (hf:Eb p base) (hin:G1 p (AL.get s)) (he:NF g h (Ih m) ⟨t,d⟩) (hi:R8 p (Ih m))
  (hr:(match Ih m x,Ih m k,Ih m y with | some x,some k,some y=>AiQ P s T x k y | _,_,_=>.fail:Tr (Oc Ty)).runK some=some oc) (hK:Zn F h g p base (AL.get s) K Q ⟨t,d⟩ o.dst oc):o.wp P ⟨t,d⟩ w K Q:=by
 split at hr
 · rename_i xv kx vx hx hkx hvx
   have hxe:=he x _ hx
   have hke:=he k _ hkx
   have hve:=he y _ hvx
   unfold AiQ at hr
   split at hr
   · rename_i KT E j hT
     split at hr
     · rename_i k' v l hcell
       cases hb:(Nat.beq KT k' && Nat.beq E v && (bif UM.ag Ty k' then kx.aggB else !kx.aggB) && (bif UM.ag Ty v then vx.aggB else !vx.aggB)) with
       | false=>rw [hb] at hr; cases hr
       | true =>
        rw [hb,Zab] at hr
        obtain⟨hb,b4⟩:=As hb
        obtain⟨hb,b3⟩:=As hb
        obtain⟨b1,b2⟩:=As hb
        obtain rfl:=Zac b1
        obtain rfl:=Zac b2
        split at hr
        · rename_i kk vv hkk hvv
          cases hr
          obtain⟨hnl,es,c,hheap,hkey,hents⟩:=hm.mp hcell
          unfold V.den at hxe
          have hkv:=Wb hkey hke b3 hkk
          have hvv:=AdG hve b4 hvv
          obtain⟨es',c',hrun,hE⟩:=@Abk P KT (Ty KT) (Ty E) (WW hkey) (Ah6 hkey) (UU Ty E) h w T E _ c es l kk vv _ hT (UMP.kl KT hkey) hheap hents hvv
          rw [Zd hkey] at hE
          replace hrun:(Instr.mapUpdate T (.map (some (g j).b)) (UM.kv KT kk) ((Act.mk t d).eval y)).run P w=.ok () (setBlock w (g j).b (.map es' c')):=hrun
          have hex:(execOp (Act.mk t d).eval o).run P w=.ok .skip (setBlock w (g j).b (.map es' c')):=by
           unfold execOp
           rcases hop with hop | hop <;> simp only [hop,hxe,hkv,Sem.run_bind,hrun,Result.andThen_ok,Sem.run_pure]
          unfold Oper.wp
          rw [hex]
          refine hK h g _ _ (Ad.le_refl _) (fun _ _=>rfl) ?_ ?_ (by unfold V.den; rfl) rfl
          · exact hm.set hcell hnl (I9 w _ _) ⟨hnl,es',c',QV hheap,hkey,hE⟩
          · exact hin.up.put (HS (hin _ _ hcell).1) rfl
        · cases hr
     · cases hr
   · cases hr
 · cases hr
omit [UMP Ty P] in
theorem Tz:∀ (ns:List Int)(r:ByteArray),(ns.foldl (fun r n=>r.push (UInt8.ofNat n.toNat)) r)=⟨r.data++(ns.map fun n=>UInt8.ofNat n.toNat).toArray⟩
 | [],r=>by cases r; simp
 | n::ns,r=>by
  rw [List.foldl_cons,Tz ns]
  cases r
  simp [ByteArray.push]
omit [UMP Ty P] in
theorem OX (w:World) (a:Addr) (n:Nat):w.grownBy (w.freeze a n) (some a.block):=by
 unfold World.freeze
 split
 · exact⟨rfl,rfl,rfl,Zas _,fun _ _ _=>rfl⟩
 · refine⟨rfl,rfl,rfl,by simp,fun k hk hne=>?_⟩
   have hne:a.block≠k:=fun hh=>hne (by rw [hh])
   simp [Zbn,hne]
theorem Zw (w:World) (a:Addr) (n b o:Nat):MQ (w.freeze a n) b o=MQ w b o:=by
 unfold World.freeze
 split
 · rfl
 · unfold MQ World.cell?
   simp only [Zbn]
   by_cases hab:a.block=b
   · simp only [if_pos hab]
     cases w.heap[b]? with
     | none=>rfl
     | some x=>cases x <;> rfl
   · simp only [if_neg hab]
theorem Al.freezeFree {M:Mo Ty} {b o n:Nat} (hm:Al F h g M w) (h1:F.w.heap.size≤b) (h2:F.X b=none) (h4:∀ j d,M j=some d→(g j).nl=false→(g j).b≠b):Al F h g M (w.freeze ⟨b,o,none⟩ n):=by
 have hg:=OX w ⟨b,o,none⟩ n
 have hb:∀ c,c<w.heap.size→c≠b→(w.freeze ⟨b,o,none⟩ n).heap[c]? = w.heap[c]?:=fun c hc hne=>hg.block c hc (by simp; exact hne)
 refine⟨hm.below.trans ⟨hg.os,hg.tape,hg.output,hg.size,fun k hk=>hb k (Zaq hk hm.size) (by omega)⟩,hm.le,hm.old,?_,?_,?_,hm.inj,?_,hm.glo⟩
 · intro c o' v hv
   obtain⟨q1,q2⟩:=hm.has c o' v hv
   exact⟨Zaq q1 hg.size,by rw [Zw]; exact q2⟩
 · exact fun i c hi=>(hm.cell i c hi).block fun hn=>hb _ (hm.own i c hi hn).2.1 (h4 i c hi hn)
 · intro i c hi hn
   obtain⟨q1,q2,q3⟩:=hm.own i c hi hn
   exact⟨q1,Zaq q2 hg.size,q3⟩
 · intro c x hx
   obtain⟨q1,q2,q3⟩:=hm.ext c x hx
   have hne:c≠b:=fun hh=>by rw [hh,h2] at hx; cases hx
   exact⟨q1,by rw [hb c (Zak.1 q2).1 hne]; exact q2,q3⟩
omit [UMP Ty P] in
theorem Zx {T1 T2:TypeId} {x:Operand} {r:Tr (Oc Ty)} {oc:Oc Ty} (hop:o.op=.convert T1 T2 x) (hm:Al F h g (AL.get s) w) {p:Nat→Bool} (hf:Eb p base) (hin:G1 p (AL.get s)) (he:NF g h (Ih m) ⟨t,d⟩) (hi:R8 p (Ih m))
  (hc:(match Ih m x with | some y=>Af6 P s T1 T2 y | none=>none)=some r) (hr:r.runK some=some oc) (hK:Zn F h g p base (AL.get s) K Q ⟨t,d⟩ o.dst oc):o.wp P ⟨t,d⟩ w K Q:=by
 split at hc
 · rename_i y hy
   have hye:=he x _ hy
   unfold Af6 at hc
   split at hc
   · rename_i E h1 h2
     cases hc
     split at hr
     · rename_i l hl
       cases hb:(Nat.beq E (UM.b8 Ty) && AhC P E) with
       | false=>rw [hb] at hr; cases hr
       | true =>
        rw [hb,Zab] at hr
        cases hr
        obtain⟨b1,b2⟩:=As hb
        have h8:P.underlying E=some (.int .u8):=by
         unfold AhC at b2
         split at b2
         · assumption
         · cases b2
        obtain⟨a,c,us,hu,hcs,hcell⟩:=Rb hm hye hl
        obtain⟨ns,rfl,hs⟩:=UML.str_rep h l us hcs
        have hlen:l.length=(ns.map (Value.int .u8)).length:=by
         have:=hcs.len
         rw [UML.b8_sz,Nat.mul_one] at this
         exact this.symm
        have hrun:(convert T1 T2 ((Act.mk t d).eval x)).run P w=.ok (.string (UM.str l)) w:=by
         rw [hu,run_convert_bytes_string w T1 T2 E a _ c h1 h8 h2]
         cases a with
         | none =>
          have:ns=[]:=by
           cases ns with
           | nil=>rfl
           | cons n ns=>obtain⟨ad,e,_⟩:=hcell 0 (.int .u8 n) rfl; cases e
          rw [hs,this]
          rfl
         | some ad =>
          have hspot:(ns.map (Value.int .u8))≠[]→ad.spot=none:=fun hne=>by
           cases ns with
           | nil=>exact absurd rfl hne
           | cons n ns=>obtain⟨ad',e,e2,_⟩:=hcell 0 (.int .u8 n) rfl; cases e; exact e2
          have hld:=run_loadCells_list (P:=P) w ad (ns.map (Value.int .u8)) (fun j v hj=>by
           obtain⟨ad',e1,e2,e3⟩:=hcell j v hj
           cases e1
           rw [Qb ad j e2]; exact e3)
          rw [hlen,run_bytesToString w ad _ c ns hld,Tz,hs]
          simp
        unfold Oper.wp execOp
        simp only [hop,Sem.run_bind,hrun,Result.andThen_ok,Sem.run_pure]
        exact hK h g w _ (Ad.le_refl _) (fun _ _=>rfl) hm hin.up (by unfold V.den; rfl) rfl
     · cases hr
   · rename_i E h1 h2
     cases hc
     split at hr
     · rename_i b
       cases hb:(Nat.beq E (UM.b8 Ty) && AhC P E) with
       | false=>rw [hb] at hr; cases hr
       | true =>
        rw [hb,Zab] at hr
        cases hr
        obtain⟨b1,b2⟩:=As hb
        have h8:P.underlying E=some (.int .u8):=by
         unfold AhC at b2
         split at b2
         · assumption
         · cases b2
        unfold V.den at hye
        have hrun:=Lib.run_convert_string_bytes (P:=P) w T1 T2 E b h1 h2 h8
        have hus:=UML.bts_rep (Ty:=Ty)
        obtain⟨h',hle,hm2,hh⟩:=hm.newSettled (us:=(R4 b).map (.int .u8)) (w':=Lib.bytesWorld w E b)
         ⟨rfl,rfl,rfl,by rw [Lib.bytesWorld_size]; omega,fun j hj _=>Lib.bytesWorld_at_old w E b j hj⟩ (by rw [Lib.bytesWorld_size]; omega)
         (fun u hu=>by obtain⟨n,_,rfl⟩:=ZaY.1 hu; rfl)
         (fun j u hu=>by
          unfold R4 at hu
          rw [ZaI,ZaI] at hu
          cases hj:b.data.toList[j]? with
          | none=>rw [hj] at hu; cases hu
          | some q =>
           rw [hj] at hu
           cases hu
           have hlt:j<b.size:=by have:=(Zaz.1 hj).1; simpa using this
           rw [Lib.bytesWorld_cell w E b j hlt,ZaT,hj]
           rfl)
        unfold Oper.wp execOp
        simp only [hop,hye,Sem.run_bind,hrun,Result.andThen_ok,Sem.run_pure]
        refine hK h' g _ _ hle (fun _ _=>rfl) hm2 hin.up ?_ rfl
        unfold V.den
        refine⟨_,_,by rw [UML.bts_len],?_⟩
        exact⟨_,hus h' b,fun j v hj=>⟨_,rfl,rfl,by simpa using hh j v hj⟩,by rw [UML.bts_len]; exact grownCap_ge w _ _ _⟩
     · cases hr
   · rename_i E1 E h1 h2
     cases hc
     split at hr
     · rename_i k i
       split at hr
       · rename_i k2 x0 l hs
         cases hb:(Nat.beq k2 k && Nat.beq T1 T2 && AhC P E) with
         | false=>rw [hb] at hr; cases hr
         | true =>
          rw [hb,Zab] at hr
          cases hr
          obtain⟨hb,b3⟩:=As hb
          obtain⟨b1,b2⟩:=As hb
          have b1:=Zac b1
          have b2:=Zac b2
          subst b1 b2
          have h8:P.underlying E=some (.int .u8):=by
           unfold AhC at b3
           split at b3
           · assumption
           · cases b3
          obtain⟨r1,r2⟩:=hm.row hs
          rcases r2 with⟨_,hl⟩ | ⟨hnl,us,sp,q1,q2,q3,q4,q5,q6⟩
          · cases hl
          · obtain⟨o1,o2,o3,o4⟩:=hm.own i _ hs hnl
            obtain⟨h',e1,e2,e3⟩:=hm.settle hs hnl q1 (At.one q2)
            unfold V.den at hye
            rw [if_neg (by rw [hnl]; exact Bool.false_ne_true)] at hye
            have hsh:w.shape? (g i).b=some (k2,(us++sp).toArray.size):=by unfold World.shape?; rw [q1]
            have hrun:(convert T1 T1 ((Act.mk t d).eval x)).run P w=.ok ((Act.mk t d).eval x) (w.freeze ⟨(g i).b,(us++sp).toArray.size,none⟩ 1):=by
             rw [hye]
             have hE:=h1.symm.trans h2
             cases hE
             simp [convert,run_underlying h1,run_underlying h8,markStringish,hsh]
            unfold Oper.wp execOp
            simp only [hop,Sem.run_bind,hrun,Result.andThen_ok,Sem.run_pure]
            refine hK h' g _ _ e1 (fun _ _=>rfl) (e2.freezeFree o1 o3 fun j c hj hn heq=>?_) (fun j c hj=>?_) ?_ rfl
            · unfold Mo.put at hj
              split at hj
              · cases hj
              · rename_i hji; exact hji (hm.inj j i c _ hj hs hn hnl heq)
            · have hj:Mo.put (AL.get s) i none j=some c:=hj
              unfold Mo.put at hj
              split at hj
              · cases hj
              · exact hin.up j c hj
            · unfold V.den
              refine⟨some ⟨(g i).b,0,none⟩,(g i).c,by rw [r1]; exact hye,us,q2.mono e1,fun o x hx=>⟨_,rfl,rfl,?_⟩,by omega⟩
              rw [Zaw]
              exact e3 o x hx
       · cases hr
     · cases hr
   · cases hc
 · cases hc
end
section
variable {Ty:Nat→Type} [rT:∀ k,Rep (Ty k)] [RFs] [UM Ty] [UML Ty] {P:Program} {F:Fr} {h:Ad} {g:GE} {w w':World} {s:A7 Ty} {base:Nat}
variable {K:Act→World→Prop} {Q:Exit→Act→World→Prop} {t:Array Value} {d:List Deferred} {m:List (Nat×V Ty)} {o:Oper}
theorem Acz {ρ:List Nat} (hn:ρ.Nodup) (hs:Nc s ρ ρ=true):JD ρ.length (AL.get (NB s (DK ρ) 0 ρ)):=fun j c hj=>by
 rw [LR] at hj
 split at hj
 · rename_i hc
   obtain⟨c0,h1,rfl⟩:=Za0.1 hj
   rw [Nat.sub_zero] at h1
   refine⟨Ap.2 (by omega),?_⟩
   have hok:=Jg hs _ (Dv (by omega)) _ h1
   have hp:∀ i,AF ρ i=true→CT ρ.length (DK ρ i)=true:=fun i hi=>Ap.2 (MF (Br.1 hi))
   exact AE.okB_ren hp hok
 · cases hj
mutual
theorem V.okB_ids {p:Nat→Bool}:∀ (x:V Ty),x.okB p=true→∀ i∈x.ids,p i=true
 | .int _ _,_,i,hi | .bool _,_,i,hi | .str _,_,i,hi | .nilp,_,i,hi | .nils,_,i,hi | .nilm,_,i,hi | .nilf,_,i,hi | .nili,_,i,hi | .undef,_,i,hi | .lst _ _,_,i,hi | .arr _ _,_,i,hi=>by simp [V.ids] at hi
 | .ptr j _,h,i,hi | .rpt _ j _ _,h,i,hi | .hdr _ j,h,i,hi | .mp j,h,i,hi | .bsl j _,h,i,hi=>by
  simp only [V.ids,Zat] at hi
  subst hi
  unfold V.okB at h; exact h
 | .ept cs o,h,i,hi=>by unfold V.okB at h; unfold V.ids at hi; exact V.oksB_ids cs h i hi
 | .agg cs,h,i,hi=>by unfold V.okB at h; unfold V.ids at hi; exact V.oksB_ids cs h i hi
 | .tup cs,h,i,hi=>by unfold V.okB at h; unfold V.ids at hi; exact V.oksB_ids cs h i hi
 | .fn n a b,h,i,hi=>by
  unfold V.okB at h
  unfold V.ids at hi
  obtain⟨h1,h2⟩:=As h
  exact(Zao.1 hi).elim (V.oksB_ids a h1 i) (V.oksB_ids b h2 i)
 | .ifc t x,h,i,hi=>by unfold V.okB at h; unfold V.ids at hi; exact V.okB_ids x h i hi
theorem V.oksB_ids {p:Nat→Bool}:∀ (xs:List (V Ty)),V.oksB p xs=true→∀ i∈V.idss xs,p i=true
 | [],_,i,hi=>by simp [V.idss] at hi
 | c::cs,h,i,hi=>by
  unfold V.oksB at h
  unfold V.idss at hi
  obtain⟨h1,h2⟩:=As h
  exact(Zao.1 hi).elim (V.okB_ids c h1 i) (V.oksB_ids cs h2 i)
end
theorem Xk {p:Nat→Bool} (hin:G1 p (AL.get s)):∀ (n:Nat)(todo acc:List Nat),(∀ i∈todo,p i=true)→(∀ i∈acc,p i=true)→∀ i∈ON s n todo acc,p i=true
 | 0,todo,acc,_,h2,i,hi=>h2 i hi
 | n+1,[],acc,_,h2,i,hi=>h2 i hi
 | n+1,j::r,acc,h1,h2,i,hi=>by
  unfold ON at hi
  cases hb:AF acc j with
  | true =>
   rw [hb,Zab] at hi
   exact Xk hin n r acc (fun k hk=>h1 k (by simp [hk])) h2 i hi
  | false =>
   rw [hb,Zad] at hi
   refine Xk hin n _ _ (fun k hk=>?_) (fun k hk=>?_) i hi
   · rcases Zao.1 hk with hk | hk
     · exact h1 k (by simp [hk])
     · cases hc:AL.get s j with
       | none=>rw [hc] at hk; simp [M9] at hk
       | some c =>
        rw [hc] at hk
        have hok:=(hin _ _ hc).2
        cases c with
        | blk tb vs=>exact V.oksB_ids vs hok k hk
        | row a l=>simp [M9,AE.ids] at hk
        | arr a l=>simp [M9,AE.ids] at hk
        | mp a b l=>simp [M9,AE.ids] at hk
        | lp st e tag ks vs=>exact V.oksB_ids vs hok k hk
   · rcases Zao.1 hk with hk | hk
     · exact h2 k hk
     · simp at hk; subst hk; exact h1 k (by simp)
theorem K3 {call:Bi Ty} {f:FuncId} {args:List (V Ty)} {vals:List Value} {oc:Oc Ty} (hP:Ga P) (hc:CU P call) (hm:Al F h g (AL.get s) w) {p:Nat→Bool} (hf:Eb p base) (hin:G1 p (AL.get s)) (hargs:V.dens g h args vals) (hok:V.oksB p args=true)
  (hr:(Kz P call s base f args).runK some=some oc) {a:Act} {dst:Option Tmp} (hK:Zn F h g p base (AL.get s) K Q a dst oc) :
  (f≠Ar→∀ args w,(callFunc f args).run P w=.ok (.enter f args) w)∧FM P f vals.toArray w (fun
   | .returned v,w''=>K (a.put dst v) w''
   | .panicked chain,w''=>Q (.panic chain) a w''
   | .outgrown,_=>LetsOut Q):=by
 unfold Kz at hr
 generalize hρ:ON s 200 (V.idss args) []=ρ at hr
 simp only at hr
 cases hb:((AhA P f || Nat.beq f Ar) && HQ ρ && V.oksB (AF ρ) args && Nc s ρ ρ) with
 | false=>rw [hb] at hr; cases hr
 | true =>
  rw [hb,Zab] at hr
  obtain⟨hb,b4⟩:=As hb
  obtain⟨hb,b3⟩:=As hb
  obtain⟨b1,b2⟩:=As hb
  have hnd:=GI b2
  have hall:∀ i∈ρ,p i=true:=by rw [← hρ]; exact Xk hin _ _ _ (V.oksB_ids args hok) (by simp)
  refine⟨fun hne args w=>AiV hP ?_ args w,?_⟩
  · rcases Bool.or_eq_true_iff.1 b1 with b1 | b1
    · exact b1
    · exact absurd (Zac b1) hne
  obtain⟨r,hr1,hr2⟩:=Tr.run_bind hr
  cases hb2:(Nat.ble (Bm ρ) r.n && Nat.ble r.n (Bm ρ+64)) with
  | false=>rw [hb2] at hr2; cases hr2
  | true =>
   rw [hb2,Zab] at hr2
   obtain⟨c1,c2⟩:=As hb2
   have c1:=Zah c1
   have c2:=Zah c2
   rw [AC] at c1 c2 hr1
   obtain⟨X,hm2,hback⟩:=hm.lend hnd b4 hf hall hin
   have hp:∀ i,AF ρ i=true→CT ρ.length (DK ρ i)=true:=fun i hi=>Ap.2 (MF (Br.1 hi))
   have hg2:∀ i,AF ρ i=true→(fun j=>g (Be ρ j)) (DK ρ i)=g i:=fun i hi=>by simp only; rw [LP (Br.1 hi)]
   refine(hc f _ _ _ r hr1 ⟨F.w,F.h,X⟩ h (fun j=>g (Be ρ j)) w vals hm2 (Acz hnd b4) (V.oksB_ren hp args b3) (V.dens_ren (g':=fun j=>g (Be ρ j)) hg2 args vals b3 hargs)).mono ?_
   rintro en w' ⟨h',g',u,hle,hgl,hm3,hin3,hkn,hvok,hvd,rfl⟩
   obtain⟨q1,q2,q3,q4⟩:=hback hm3 hle (fun j hj=>hgl j (Ap.2 hj)) hin3 hkn c2
   rw [A7.get_app] at q1 q2
   rw [AC] at hr2
   have hbg:∀ i,p i=true→OW g g' ρ.length base i=g i:=fun i hi=>by
    unfold OW
    rw [if_neg]
    intro hh
    rw [hf i hh] at hi
    cases hi
   cases hp2:r.p with
   | false =>
    rw [hp2] at hr2
    cases hr2
    exact hK h' _ w' u hle hbg q1 q2 (q3 _ _ hvok hvd) (q4 _ hvok)
   | true =>
    rw [hp2] at hr2
    cases hr2
    exact hK h' _ w' u hle hbg q1 q2 (q3 _ _ hvok hvd) (q4 _ hvok)
variable [UV Ty]
def Ait (y:Bool) (P:Program) (o:Oper) (a:Act) (w:World) (K:Act→World→Prop) (Q:Exit→Act→World→Prop):Prop:=match y with
 | true=>o.wpIn Fence.wide 0 P a w K Q
 | false=>o.wp P a w K Q
theorem Ait.of {y:Bool} {a:Act} (h:o.wp P a w K Q):Ait y P o a w K Q:=match y with
 | true=>Aku h
 | false=>h
theorem Ait.wp {a:Act} (h:Ait false P o a w K Q):o.wp P a w K Q:=h
theorem T0 {us:List Value} (h:V.dens g h ([]:List (V Ty)) us):us=[]:=by unfold V.dens at h; exact h
theorem OY {x:V Ty} {us:List Value} (hd:V.dens g h [x] us):∃ u,us=[u]∧x.den g h u:=by
 unfold V.dens at hd
 obtain⟨u,us',e,h1,h2⟩:=hd
 rw [T0 h2] at e
 exact⟨u,e,h1⟩
theorem Re {call:Bi Ty} {n:Int} {vs:List (V Ty)} {oc:Oc Ty}:∀ {l:List FuncId},(Acr P call s base n vs l).runK some=some oc→∃ f:Nat,n=(f:Int)∧Nat.blt f Ar=true∧(Kz P call s base f vs).runK some=some oc
 | [],h=>by cases h
 | f::r,h=>by
  unfold Acr at h
  rw [Tr.runK_br] at h
  cases hn:(n == (f:Int)) with
  | true =>
   rw [hn,Zab] at h
   cases hb:Nat.blt f Ar with
   | false=>rw [hb] at h; cases h
   | true=>rw [hb,Zab] at h; exact⟨f,by simpa using hn,hb,h⟩
  | false=>rw [hn,Zad] at h; exact Re h
theorem Zy {y:Bool} {call:Bi Ty} {f:Operand} {args:Array Operand} {tys:Array TypeId} {l:List TypeId} {fv:V Ty} {vs:List (V Ty)} {oc:Oc Ty} (hop:o.op=.call ⟨.value f,args,tys⟩) (hP:Ga P) (hc:CU P call) (hy:y=false→∀ args k s,(call Ar args k s).runK some=none) (hm:Al F h g (AL.get s) w) {p:Nat→Bool} (hf:Eb p base) (hin:G1 p (AL.get s))
  (hfv:fv.den g h ((Act.mk t d).eval f)) (hfo:fv.okB p=true) (hv:V.dens g h vs (args.toList.map (Act.mk t d).eval)) (hvo:V.oksB p vs=true)
  (hr:(Af5 P call s base l vs fv).runK some=some oc) (hK:Zn F h g p base (AL.get s) K Q ⟨t,d⟩ o.dst oc):Ait y P o ⟨t,d⟩ w K Q:=by
 have h1:args.map (Act.mk t d).eval=(args.toList.map (Act.mk t d).eval).toArray:=by
  apply Array.ext'
  rw [Array.toList_map]
 have go:∀ {fid:Nat} {as bs:List Value} {avs:List (V Ty)},(Act.mk t d).eval f=.func (.func fid) as.toArray bs.toArray→Nat.blt fid Ar=true→V.dens g h avs (as++args.toList.map (Act.mk t d).eval++bs)→V.oksB p avs=true→(Kz P call s base fid avs).runK some=some oc→o.wp P ⟨t,d⟩ w K Q:=fun {fid as bs avs} hfe hlt hd ho hr=>by
  have hne:fid≠Ar:=Qe hlt
  obtain⟨hent,hcalls⟩:=K3 hP hc hm hf hin hd ho hr hK
  have hcalls:=hcalls.calls hne
  unfold Oper.wp execOp
  simp only [hop,resolve,h1,hfe]
  simp only [Deferred.ofValue,Sem.run_bind,Sem.run_pure,Result.andThen_ok,invoke,hent hne,Oper.upon]
  have:as.toArray++(args.toList.map (Act.mk t d).eval).toArray++bs.toArray=(as++args.toList.map (Act.mk t d).eval++bs).toArray:=by simp
  rw [this]
  exact hcalls
 unfold Af5 at hr
 split at hr
 · rename_i fid a b
   unfold V.den at hfv
   obtain⟨as,bs,hfe,ha,hb⟩:=hfv
   unfold V.okB at hfo
   obtain⟨o1,o2⟩:=As hfo
   cases hlt:Nat.blt fid Ar with
   | true =>
    rw [hlt,Zab] at hr
    rw [Tc hlt] at hfe
    exact .of (go hfe hlt (V.dens_append (V.dens_append ha hv) hb) (V.oksB_append (V.oksB_append o1 hvo) o2) hr)
   | false =>
    rw [hlt,Zad] at hr
    cases hyf:Nat.beq fid Ar with
    | true =>
     rw [hyf,Zab] at hr
     have hyf:=Zac hyf
     split at hr
     · rename_i i
       have hfa:=T0 ha
       obtain⟨u,hu,hui⟩:=OY hb
       unfold V.den at hui
       subst hui hfa
       rw [hu,hyf] at hfe
       replace hfe:(Act.mk t d).eval f=.func (.yield (g i).b) #[] #[]:=by rw [hfe]; unfold Ad6; rw [if_pos rfl]
       obtain⟨_,hcalls⟩:=K3 hP hc hm hf hin (V.dens_append hv (hu▸hb)) (V.oksB_append hvo o2) hr hK
       cases y with
       | false =>
        exfalso
        unfold Kz at hr
        simp only [Bool.cond_eq_ite] at hr
        split at hr
        · obtain⟨r,hr1,_⟩:=Tr.run_bind hr
          rw [hy rfl] at hr1
          cases hr1
        · cases hr
       | true =>
        unfold FM at hcalls
        rw [if_pos rfl] at hcalls
        obtain⟨lo,as',r,e1,e2,e3,e4⟩:=hcalls
        have e5:args.toList.map (Act.mk t d).eval=as'∧(g i).b=lo:=by
         have e1:=congrArg Array.toList e1
         simp only [List.append_cancel_left_eq] at e1
         have:=List.append_inj' e1 rfl
         refine⟨this.1,?_⟩
         have:=this.2
         simpa using this
        obtain⟨rfl,rfl⟩:=e5
        show o.wpIn Fence.wide 0 P ⟨t,d⟩ w K Q
        refine⟨fun _ _=>trivial,?_⟩
        rw [show Fence.wide.round=none from rfl,Oper.semAt_none]
        unfold execOp
        simp only [hop,resolve,h1,hfe]
        have hrun:=run_yield (P:=P) (args:=(args.toList.map (Act.mk t d).eval).toArray) e2 (by simpa using e3)
        simp only [Deferred.ofValue,Sem.run_bind,Sem.run_pure,Result.andThen_ok,invoke,Array.empty_append,Array.append_empty,hrun]
        refine⟨fun hh=>by simp [Fence.wide] at hh,RoundIn.mono e4 ?_⟩
        intro en w' hh
        cases en <;> exact hh
     · cases hr
    | false =>
     rw [hyf,Zad] at hr
     cases hdf:Nat.beq fid QW with
     | false=>rw [hdf] at hr; cases hr
     | true =>
      rw [hdf,Zab] at hr
      have hdf:=Zac hdf
      split at hr
      · rename_i n
        have hfb:=T0 hb
        obtain⟨u,hu,hui⟩:=OY ha
        unfold V.den at hui
        subst hui hfb
        rw [hu,hdf] at hfe
        obtain⟨f',rfl,hlt',hr'⟩:=Re hr
        replace hfe:(Act.mk t d).eval f=.func (.func f') ([]:List Value).toArray ([]:List Value).toArray:=by
         rw [hfe]; unfold Ad6; rw [if_neg (by decide),if_pos rfl]
         show(if ((f':Nat):Int)<0 then Value.nilFunc else .func (.func ((f':Nat):Int).toNat) #[] #[])=_
         rw [if_neg (by omega)]; rfl
        exact .of (go hfe hlt' (by simpa using hv) hvo hr')
      · cases hr
 · cases hr
variable [UL Ty] [UMP Ty P]
theorem Wd {call:Bi Ty} {op:Op} {oc:Oc Ty} (hP:Ga P) (hc:CU P call) {y:Bool} (hy:y=false→∀ args k s,(call Ar args k s).runK some=none) (hop:o.op=op) (hm:Al F h g (AL.get s) w) {p:Nat→Bool} (hf:Eb p base) (hin:G1 p (AL.get s)) (hk:P3 g h m t) (him:Tq p m) (hr:(R5 P call base m s op).runK some=some oc) (hK:Zn F h g p base (AL.get s) K Q ⟨t,d⟩ o.dst oc):Ait y P o ⟨t,d⟩ w K Q:=by
 have he:NF g h (Ih m) ⟨t,d⟩:=Qm hk
 have hi:R8 p (Ih m):=Af9 him
 have quiet:∀ {op':Op},o.op=op'→((Cu P (Ih m) (AL.get s) op').bind fun v=>(.ret (.ok v []):Tr (Oc Ty))).runK some=some oc→o.wp P ⟨t,d⟩ w K Q:=fun {op'} hop' hr'=>by
  obtain⟨v,h1,h2⟩:=Tr.run_bind hr'
  cases h2
  obtain⟨u,q1,q2⟩:=Xd (a:=⟨t,d⟩) hop' hm he h1
  unfold Oper.wp
  rw [q1]
  exact hK h g w u (Ad.le_refl _) (fun _ _=>rfl) hm hin.up q2 (Abu (AdC hi (fun i c hc=>(hin i c hc).2) h1))
 cases op with
 | alloc T=>exact .of (Zq hop hm hf hin hr hK)
 | box T x=>exact .of (AdD hop hm hf hin he hi hr hK)
 | store T a x=>exact .of (Zs hop hm hf hin he hi hr hK)
 | buildSlice T n ps=>exact .of (Qo hop hm hf hin he hi hr hK)
 | makeSlice T x y=>exact .of (R9 hop hm hf hin he hr hK)
 | panic x =>
  rw [R5] at hr
  split at hr
  · rename_i ty v hx
    cases hr
    have hxe:=he x _ hx
    have hx2:=hxe
    unfold V.den at hxe
    obtain⟨u,hxe,hu⟩:=hxe
    have hrun:(execOp (Act.mk t d).eval o).run P w=.halt (.panic (.iface ty u)) w:=by
     unfold execOp
     simp only [hop,hxe,Instr.panic]
     rfl
    refine .of ?_
    unfold Oper.wp
    rw [hrun]
    exact hK h g w (.iface ty u) (Ad.le_refl _) (fun _ _=>rfl) hm hin.up (by rw [← hxe]; exact hx2) (Abu (hi x _ hx))
  · cases hr
 | call c =>
  obtain⟨callee,args,tys⟩:=c
  cases callee with
  | builtin b =>
   cases b with
   | append=>exact .of (Xj hop hm hf hin he hi hr hK)
   | _=>exact .of (quiet hop hr)
  | invoke x y=>exact .of (quiet hop hr)
  | value f =>
   rw [R5] at hr
   split at hr
   · rename_i fv vs hff hvs
     exact Zy hop hP hc hy hm hf hin (he f _ hff) (hi f _ hff) (ME he hvs) (Xf hi hvs) hr hK
   · cases hr
 | lookup T x i ok=>exact .of (Zv hop hm hf hin he hi hr hK)
 | makeMap T r=>exact .of (UY hop hm hf hin hr hK)
 | mapUpdate T x k v=>exact .of (Tx (.inl hop) hm hf hin he hi hr hK)
 | insert T x k v=>exact .of (Tx (.inr hop) hm hf hin he hi hr hK)
 | convert T1 T2 x =>
  rw [R5] at hr
  split at hr
  · rename_i r hcv
    exact .of (Zx hop hm hf hin he hi hcv hr hK)
  · exact .of (quiet hop hr)
 | _=>exact .of (quiet hop hr)
end
end Go.Proofs.YtkpgggfibljflaaGreatDoor
namespace Go.Proofs.YtkpgggfibljflaaGreatDoor
open Go Go.RowKit
open Rep (rep)
section
variable {P:Program} {Q:Exit→Act→World→Prop} {a:Act} {w:World} {ops:Array Oper}
theorem Zz {F:Fence} {n0:Nat} {c:Code} (I:Nat→Act→World→Prop) (n:Nat) (h0:I n a w)
  (round:∀ n a w,I n a w→c.wpIn F n0 P (Exit.then (fun a' w'=>∃ m,m<n∧I m a' w') Q) a w):(Code.loop c).wpIn F n0 P Q a w:=by
 intro b k cs hro hb hr
 have key:∀ n a w,I n a w →
   ∃ e a' w',Q e a' w'∧ArrivesIn (Machine.fenced P F) P (lone (b.atR a (.code c::.inLoop c::k)) cs w) b k cs e a' w':=by
  intro n
  induction n using Nat.strongRecOn with
  | _ n ih =>
   intro a w hI
   obtain⟨e,a₁,w₁,hq,harr⟩:=round n a w hI b (.inLoop c::k) cs hro hb hr
   cases e with
   | normal =>
    obtain⟨m,hlt,hI₁⟩:=hq
    obtain⟨e₂,a₂,w₂,hq₂,harr₂⟩:=ih m hlt a₁ w₁ hI₁
    exact⟨e₂,a₂,w₂,hq₂,.of_steps (StepsIn.trans harr (.one (fenced_calm hb hr rfl) stepR_inLoop)) harr₂⟩
   | exit id=>exact⟨_,a₁,w₁,hq,.pass (x:=.inLoop c) rfl (fun _ _=>.inl (by simp)) harr⟩
   | goto l=>exact⟨_,a₁,w₁,hq,.pass (x:=.inLoop c) rfl (fun _ _=>.inl (by simp)) harr⟩
   | ret=>exact⟨_,a₁,w₁,hq,.pass (x:=.inLoop c) rfl (fun _ _=>.inl (by simp)) harr⟩
   | panic ch=>exact⟨_,a₁,w₁,hq,.pass (x:=.inLoop c) rfl (fun _ _=>.inl (by simp)) harr⟩
   | outgrown=>exact⟨_,a₁,w₁,hq,.pass (x:=.inLoop c) rfl (fun _ _=>.inl (by simp)) harr⟩
 obtain⟨e,a',w',hq,harr⟩:=key n a w h0
 exact⟨e,a',w',hq,.of_steps (.one (fenced_calm hb hr rfl) stepR_loop) harr⟩
structure ws (P:Program) (c:Code) (Q:Exit→Act→World→Prop) (a:Act) (w:World):Prop where
 wp:c.wp P Q a w
 rd : ¬ LetsOut Q→∀ l,c.wpIn (AiO l) 0 P Q a w
theorem AhJ (h:Q .normal a w):ws P .skip Q a w:=⟨wp_skip h,fun _ _=>wpIn_skip h⟩
theorem AfB {l:Nat} (h:Q .normal a w):ws P (.label l) Q a w:=⟨wp_label h,fun _ _=>wpIn_label h⟩
theorem AhK {id:Nat} (h:Q (.exit id) a w):ws P (.exit id) Q a w:=⟨wp_exit h,fun _ _=>wpIn_exit h⟩
theorem AiW (h:Q .ret a w):ws P .ret Q a w:=⟨wp_ret h,fun _ _=>wpIn_ret h⟩
theorem AiX {x y:Code} (h:ws P x (Exit.then (ws P y Q) Q) a w):ws P (.seq x y) Q a w :=
 ⟨wp_seq (wp_mono h.wp fun e a w hq=>by cases e <;> first | exact ws.wp hq | exact hq),
  fun hl l=>wpIn_seq (wpIn_mono (h.rd (fun⟨a,w,h1⟩=>hl ⟨a,w,h1⟩) l) fun e a w hq=>by cases e <;> first | exact ws.rd hq hl l | exact hq)⟩
theorem AfC {id:Nat} {c:Code} (h:ws P c (Exit.inBlock id Q) a w):ws P (.block id c) Q a w :=
 ⟨wp_block h.wp,fun hl l=>wpIn_block (h.rd (fun⟨a,w,h1⟩=>hl ⟨a,w,h1⟩) l)⟩
theorem AdI {c:Code} (I:Nat→Act→World→Prop) (n:Nat) (h0:I n a w)
  (round:∀ n a w,I n a w→ws P c (Exit.then (fun a' w'=>∃ m,m<n∧I m a' w') Q) a w):ws P (.loop c) Q a w :=
 ⟨VN I n h0 fun n a w hI=>(round n a w hI).wp,fun hl l=>Zz I n h0 fun n a w hI=>(round n a w hI).rd (fun⟨a,w,h1⟩=>hl ⟨a,w,h1⟩) l⟩
theorem UZ {c:Operand} {x y:Code} {t:Bool} (hc:a.eval c=.bool t) (h1:t=true→ws P x Q a w) (h2:t=false→ws P y Q a w):ws P (.cond c x y) Q a w :=
 ⟨wp_cond_split hc (fun h=>(h1 h).wp) (fun h=>(h2 h).wp),fun hl l=>wpIn_cond_split hc (fun h=>(h1 h).rd hl l) (fun h=>(h2 h).rd hl l)⟩
theorem T3 {id:Nat} (hd:GD ops=true) (h:Hr P ops Q 0 a w):ws P (.region id ops false) Q a w:=⟨SS h,fun hl _=>Abm hl hd h⟩
theorem Z0 {id:Nat} (hd:GD ops=true) (hm:P.follows .mixedOrders=true) (h:AiM P ops Q [] a w.drew):ws P (.region id ops true) Q a w:=⟨QS hm h,fun hl _=>WV hl hd hm h⟩
end
section
variable {P:Program} {Q:Exit→Act→World→Prop} {a:Act} {w:World} {ops:Array Oper}
def Qr (y:Bool) (P:Program) (ops:Array Oper) (Q:Exit→Act→World→Prop) (i:Nat) (a:Act) (w:World):Prop:=match y with
 | true=>GF P ops Q i a w
 | false=>Hr P ops Q i a w
theorem Qr.end_ {y:Bool} {i:Nat} (hi:ops.size≤i) (h:Q .normal a w):Qr y P ops Q i a w:=match y with
 | true=>Zb hi h
 | false=>Abi hi h
theorem Qr.op {y:Bool} {i:Nat} {o:Oper} (ho:ops[i]? = some o)
  (h:if Region.wanted o (yielded ops a.tmps) then Ait y P o a w (Qr y P ops Q (i+1)) Q else Qr y P ops Q (i+1) (a.put o.dst undef) w):Qr y P ops Q i a w:=by
 cases y with
 | true=>exact Abn ho h
 | false =>
  refine Ad4 (Zak.1 ho).1 ?_
  unfold wpOp
  simp only [ho]
  split
  · rename_i hw
    rw [if_pos hw] at h
    exact .inl h
  · rename_i hw
    rw [if_neg hw] at h
    exact h
def CJ (y:Bool) (P:Program) (c:Code) (Q:Exit→Act→World→Prop) (a:Act) (w:World):Prop:=match y with
 | true=>c.wp P Q a w
 | false=>ws P c Q a w
theorem CJ.wp {y:Bool} {c:Code} (h:CJ y P c Q a w):c.wp P Q a w:=match y,h with
 | true,h=>h
 | false,h=>ws.wp h
theorem CJ.skip {y:Bool} (h:Q .normal a w):CJ y P .skip Q a w:=match y with
 | true=>wp_skip h
 | false=>AhJ h
theorem CJ.label {y:Bool} {l:Nat} (h:Q .normal a w):CJ y P (.label l) Q a w:=match y with
 | true=>wp_label h
 | false=>AfB h
theorem CJ.exit {y:Bool} {id:Nat} (h:Q (.exit id) a w):CJ y P (.exit id) Q a w:=match y with
 | true=>wp_exit h
 | false=>AhK h
theorem CJ.ret {y:Bool} (h:Q .ret a w):CJ y P .ret Q a w:=match y with
 | true=>wp_ret h
 | false=>AiW h
theorem CJ.seq {y:Bool} {c1 c2:Code} (h:CJ y P c1 (Exit.then (CJ y P c2 Q) Q) a w):CJ y P (.seq c1 c2) Q a w:=match y,h with
 | true,h=>wp_seq h
 | false,h=>AiX h
theorem CJ.block {y:Bool} {id:Nat} {c:Code} (h:CJ y P c (Exit.inBlock id Q) a w):CJ y P (.block id c) Q a w:=match y,h with
 | true,h=>wp_block h
 | false,h=>AfC h
theorem CJ.loop {y:Bool} {c:Code} (I:Nat→Act→World→Prop) (n:Nat) (h0:I n a w)
  (round:∀ n a w,I n a w→CJ y P c (Exit.then (fun a' w'=>∃ m,m<n∧I m a' w') Q) a w):CJ y P (.loop c) Q a w:=match y,round with
 | true,round=>VN I n h0 round
 | false,round=>AdI I n h0 round
theorem CJ.cond {y:Bool} {c:Operand} {c1 c2:Code} {t:Bool} (hc:a.eval c=.bool t) (h1:t=true→CJ y P c1 Q a w) (h2:t=false→CJ y P c2 Q a w):CJ y P (.cond c c1 c2) Q a w:=match y,h1,h2 with
 | true,h1,h2=>wp_cond_split hc h1 h2
 | false,h1,h2=>UZ hc h1 h2
theorem CJ.scope {y:Bool} {c:Code} (hy:y=true) (h:CJ y P c (Exit.noGoto Q) a w):CJ y P (.scope c) Q a w:=by
 subst hy
 exact wp_scope_straight h
theorem CJ.region {y:Bool} {id:Nat} (hd:GD ops=true) (h:Qr y P ops Q 0 a w):CJ y P (.region id ops false) Q a w:=match y,h with
 | true,h=>R3 h
 | false,h=>T3 hd h
theorem CJ.regionG {y:Bool} {id:Nat} (hd:GD ops=true) (hm:P.follows .mixedOrders=true) (h:AiM P ops Q [] a w.drew):CJ y P (.region id ops true) Q a w:=match y with
 | true=>QS hm h
 | false=>Z0 hd hm h
structure FD (F F':Fr) (d d':List Deferred):Prop where
 w:F'.w=F.w
 h:F'.h=F.h
 X:∀ b x,F.X b=some x→F'.X b=some x
 ds:∃ bs:List Nat,d' = bs.map Zc++d∧bs.Nodup∧∀ b∈bs,F.X b=none∧F'.X b=some (.deferred (some []))
theorem FD.refl (F:Fr) (d:List Deferred):FD F F d d:=⟨rfl,rfl,fun _ _ h=>h,[],rfl,Zb4,by simp⟩
theorem FD.trans {F F' F2:Fr} {d d' d2:List Deferred} (h1:FD F F' d d') (h2:FD F' F2 d' d2):FD F F2 d d2:=by
 obtain⟨bs,rfl,n1,q1⟩:=h1.ds
 obtain⟨bs2,rfl,n2,q2⟩:=h2.ds
 refine⟨by rw [h2.w,h1.w],by rw [h2.h,h1.h],fun b x hb=>h2.X b x (h1.X b x hb),bs2++bs,by simp,ZbA.2 ⟨n2,n1,?_⟩,fun b hb=>?_⟩
 · intro x hx y hy hxy
   subst hxy
   have h3:=(q2 x hx).1
   rw [(q1 x hy).2] at h3
   cases h3
 · rcases Zao.1 hb with hb | hb
   · refine⟨?_,(q2 b hb).2⟩
     cases hx:F.X b with
     | none=>rfl
     | some x=>have:=h1.X b x hx; rw [(q2 b hb).1] at this; cases this
   · exact⟨(q1 b hb).1,h2.X _ _ (q1 b hb).2⟩
end
section
variable {Ty:Nat→Type} [rT:∀ k,Rep (Ty k)] [RFs] [UM Ty] [UML Ty] {F F':Fr} {h:Ad} {g:GE} {M:Mo Ty} {w:World} {d d':List Deferred}
theorem Al.back (hf:FD F F' d d') (hm:Al F' h g M w):Al F h g M w:=by
 refine⟨?_,?_,?_,hm.has,hm.cell,?_,hm.inj,fun b x hx=>?_,by rw [← hf.w]; exact hm.glo⟩
 · rw [← hf.w]; exact hm.below
 · rw [← hf.h]; exact hm.le
 · rw [← hf.w,← hf.h]; exact hm.old
 · intro i c hi hn
   obtain⟨q1,q2,q3,q4⟩:=hm.own i c hi hn
   rw [hf.w] at q1
   refine⟨q1,q2,?_,q4⟩
   cases hx:F.X (g i).b with
   | none=>rfl
   | some x=>rw [hf.X _ _ hx] at q3; cases q3
 · have:=hm.ext b x (hf.X b x hx)
   rw [hf.w] at this
   exact this
end
section
variable {Ty:Nat→Type} [rT:∀ k,Rep (Ty k)] [RFs] [UM Ty] [UML Ty] {P:Program} {F:Fr} {h:Ad} {g:GE} {w w':World} {s:A7 Ty} {N n:Nat}
variable {Q:Exit→Act→World→Prop} {t:Array Value} {d:List Deferred} {m:List (Nat×V Ty)} {ops:Array Oper}
structure RS (N:Nat) (F:Fr) (h:Ad) (g:GE) (n:Nat) (m:List (Nat×V Ty)) (s:A7 Ty) (t:Array Value) (w:World):Prop where
 size:t.size=N
 kn:P3 g h m t
 mem:Al F h g (AL.get s) w
 im:Tq (CT n) m
 is_:JD n (AL.get s)
def AdJ (Q:Exit→Act→World→Prop) (g:GE) (h:Ad) (n:Nat) (a:Act) (w:World):Ah9 Ty→Prop
 | .normal=>Q .normal a w
 | .exit id=>Q (.exit id) a w
 | .ret=>Q .ret a w
 | .pan v=>∀ u,v.den g h u→v.okB (CT n)=true→Q (.panic [{ v:=u,recovered:=false }]) a w
def AfD (N:Nat) (F:Fr) (h:Ad) (g:GE) (n:Nat) (Q:Exit→Act→World→Prop) (d:List Deferred) (lf:Lf Ty):Prop :=
 ∀ (F':Fr)(d':List Deferred)(h':Ad)(g':GE)(t':Array Value)(w':World),FD F F' d d'→Ad.le h h'→(∀ i,i<n→g' i=g i)→n≤lf.st.nx→RS N F' h' g' lf.st.nx lf.st.m lf.st.s t' w'→AdJ Q g' h' lf.st.nx ⟨t',d'⟩ w' lf.e
theorem P3.mono {h':Ad} {g':GE} {p:Nat→Bool} (hk:P3 g h m t) (hi:Tq p m) (hle:Ad.le h h') (hg:∀ i,p i=true→g' i=g i):P3 g' h' m t:=fun k v hv=>by
 obtain⟨u,h1,h2⟩:=hk k v hv
 exact⟨u,h1,V.den_mono hle _ _ (V.den_agree hg (hi k v hv) h2)⟩
theorem P3.put {k:Nat} {v:V Ty} {u:Value} (hk:P3 g h m t) (hlt:k<t.size) (hv:v.den g h u):P3 g h ((k,v)::m) (t.setIfInBounds k u):=fun j x hj=>by
 unfold AL.get at hj
 cases hb:Nat.beq k j with
 | true =>
  rw [hb] at hj
  cases hj
  have:=Zac hb
  subst this
  exact⟨u,by simp [hlt],hv⟩
 | false =>
  rw [hb] at hj
  have hne:k≠j:=fun hh=>by subst hh; simp at hb
  obtain⟨u',h1,h2⟩:=hk j x hj
  exact⟨u',by rw [ZaX hne]; exact h1,h2⟩
theorem Tq.put {p:Nat→Bool} {k:Nat} {v:V Ty} (hi:Tq p m) (hv:v.okB p=true):Tq p ((k,v)::m):=fun j x hj=>by
 unfold AL.get at hj
 cases hb:Nat.beq k j with
 | true=>rw [hb] at hj; cases hj; exact hv
 | false=>rw [hb] at hj; exact hi j x hj
theorem Tq.mono {p q:Nat→Bool} (hi:Tq p m) (hpq:∀ i,p i=true→q i=true):Tq q m:=fun k v hv=>V.okB_imp hpq v (hi k v hv)
theorem G1.mono {p q:Nat→Bool} {M:Mo Ty} (hi:G1 p M) (hpq:∀ i,p i=true→q i=true):G1 q M:=fun i c hc=>⟨hpq i (hi i c hc).1,AE.okB_imp hpq (hi i c hc).2⟩
theorem FN {a b:Nat} (h:a≤b):∀ i,CT a i=true→CT b i=true:=fun i hi=>Ap.2 (Zaq (Ap.1 hi) h)
theorem Xl {a:Nat}:∀ i,UD (CT a) a i=true→CT (a+64) i=true:=fun i hi=>by
 unfold UD at hi
 simp only [ZaS] at hi
 rcases hi with hi | hi
 · exact Ap.2 (by have:=Ap.1 hi; omega)
 · exact Ap.2 (Ea.1 hi).2
theorem P3.putM {dst:Option Tmp} {v:V Ty} {u:Value} (hk:P3 g h m t) (hN:t.size=N) (hd:VV N dst=true) (hv:v.den g h u):P3 g h (putM m dst v) ((Act.mk t d).put dst u).tmps:=by
 cases dst with
 | none=>exact hk
 | some k=>exact hk.put (by rw [hN]; exact Zah hd) hv
theorem Tq.putM {p:Nat→Bool} {dst:Option Tmp} {v:V Ty} (hi:Tq p m) (hv:v.okB p=true):Tq p (putM m dst v):=by
 cases dst with
 | none=>exact hi
 | some k=>exact hi.put hv
theorem OZ (a:Act) (dst:Option Tmp) (u:Value):(a.put dst u).tmps.size=a.tmps.size:=by cases dst <;> simp [Act.put]
theorem K4 (a:Act) (dst:Option Tmp) (u:Value):(a.put dst u).defers=a.defers:=by cases dst <;> rfl
def We (m m':List (Nat×V Ty)):Prop:=∀ k,AL.get m k=AL.get m' k
theorem Z6 {o:Oper} {ρ:Type} {yes no:List (Nat×V Ty)→Tr ρ} {x:ρ} (hk:P3 g h m t) (hr:(VW ops m o yes no).runK some=some x) :
  ∃ m',We m' m∧((Region.wanted o (yielded ops t)=true∧(yes m').runK some=some x)∨(Region.wanted o (yielded ops t)=false∧(no m').runK some=some x)):=by
 unfold VW at hr
 split at hr
 · rename_i hg
   exact⟨m,fun _=>rfl,.inl ⟨by simp [Region.wanted,hg],hr⟩⟩
 · rename_i j wnt hg
   split at hr
   · rename_i oj hoj
     split at hr
     · rename_i dd hd
       have hy:∀ u,t[dd]? = some u→yielded ops t j=match u with | .bool b=>some b | _=>none:=fun u hu=>by
        unfold yielded
        rw [hoj]
        simp only [Zaa,hd,hu]
        cases u <;> rfl
       split at hr
       · rename_i b hb
         obtain⟨u,h1,h2⟩:=hk dd _ hb
         unfold V.den at h2
         subst h2
         rw [Tr.runK_br] at hr
         have hw:Region.wanted o (yielded ops t)=(b == wnt):=by
          unfold Region.wanted
          simp only [hg,hy _ h1]
          cases b <;> cases wnt <;> rfl
         have hsame:∀ b',b=b'→We ((dd,.bool b')::m) m:=fun b' hbb k=>by
          subst hbb
          show(bif Nat.beq dd k then some (V.bool b) else AL.get m k)=AL.get m k
          cases hk2:Nat.beq dd k with
          | true=>have:=Zac hk2; subst this; exact hb.symm
          | false=>rfl
         cases wnt <;> cases b
         · exact⟨_,hsame _ rfl,.inl ⟨by rw [hw]; rfl,hr⟩⟩
         · exact⟨_,hsame _ rfl,.inr ⟨by rw [hw]; rfl,hr⟩⟩
         · exact⟨_,hsame _ rfl,.inr ⟨by rw [hw]; rfl,hr⟩⟩
         · exact⟨_,hsame _ rfl,.inl ⟨by rw [hw]; rfl,hr⟩⟩
       · rename_i hb
         obtain⟨u,h1,h2⟩:=hk dd _ hb
         unfold V.den at h2
         subst h2
         refine⟨m,fun _=>rfl,.inr ⟨?_,hr⟩⟩
         unfold Region.wanted
         simp only [hg,hy _ h1,Go.undef]
         rfl
       · cases hr
     · cases hr
   · cases hr
variable [UV Ty] [UL Ty] [UMP Ty P]
theorem P3.same {m':List (Nat×V Ty)} (hk:P3 g h m t) (hs:We m' m):P3 g h m' t:=fun k v hv=>hk k v (by rw [← hs k]; exact hv)
theorem Tq.same {p:Nat→Bool} {m':List (Nat×V Ty)} (hi:Tq p m) (hs:We m' m):Tq p m':=fun k v hv=>hi k v (by rw [← hs k]; exact hv)
theorem Ik {y:Bool} {call:Bi Ty} (hP:Ga P) (hc:CU P call) (hy:y=false→∀ args k s,(call Ar args k s).runK some=none) {lf:Lf Ty} {n0:Nat} {h0:Ad} {g0:GE} (hK:AfD N F h0 g0 n0 Q d lf) :
  ∀ (r:List Oper)(i:Nat)(m:List (Nat×V Ty))(s:A7 Ty)(h:Ad)(g:GE)(t:Array Value)(w:World),ops.toList.drop i=r→RS N F h g (n0+64*i) m s t w→Ad.le h0 h→(∀ j,j<n0→g j=g0 j)→(Qh P N call ops n0 i r m s).runK some=some lf→Qr y P ops Q i ⟨t,d⟩ w
 | [],i,m,s,h,g,t,w,hd,hs,hle,hg,hr=>by
  cases hr
  refine Qr.end_ ?_ ?_
  · rcases Za8 i ops.size with h' | h'
    · have:=congrArg List.length hd
      simp at this
      omega
    · exact h'
  · exact hK F d h g t w (FD.refl F d) hle hg (by simp only; omega) hs
 | o::r,i,m,s,h,g,t,w,hd,hs,hle,hg,hr=>by
  have hi:ops[i]? = some o:=by
   rw [← Za1]
   have:=congrArg (fun l:List Oper=>l[0]?) hd
   simpa using this
  have hd':ops.toList.drop (i+1)=r:=by
   have:=congrArg List.tail hd
   simpa [List.tail_drop] using this
  have hlt:i<ops.size:=(Zak.1 hi).1
  unfold Qh at hr
  cases hdst:VV N o.dst with
  | false=>rw [hdst] at hr; cases hr
  | true =>
   rw [hdst,Zab] at hr
   obtain⟨m',hsame,hcase⟩:=Z6 hs.kn hr
   refine Qr.op hi ?_
   rcases hcase with⟨hw,hr⟩ | ⟨hw,hr⟩
   · simp only [hw,if_true]
     obtain⟨oc,h1,h2⟩:=Tr.run_bind hr
     refine Wd hP hc hy rfl hs.mem (HC _) hs.is_ (hs.kn.same hsame) (hs.im.same hsame) h1 ?_
     cases oc with
     | ok v ws =>
      intro h' g' w' u q1 q2 q3 q4 q5 q6
      simp only [V.frc_eq,Xa,WZ] at h2
      have hact:(Act.mk t d).put o.dst u=Act.mk ((Act.mk t d).put o.dst u).tmps d:=RO (K4 _ _ _)
      rw [hact]
      refine Ik hP hc hy hK r (i+1) _ _ h' g' _ w' hd' ⟨by rw [OZ]; exact hs.size,?_,?_,?_,?_⟩ (Ad.le_trans hle q1) (fun j hj=>by rw [q2 j (Ap.2 (by omega))]; exact hg j hj) h2
      · exact((hs.kn.same hsame).mono (hs.im.same hsame) q1 q2).putM hs.size hdst q5
      · rw [A7.get_app]; exact q3
      · refine((hs.im.same hsame).mono (FN (by omega))).putM ?_
        exact V.okB_imp (fun j hj=>by have:=Xl j hj; rwa [Nat.mul_add,← Zbw]) _ q6
      · rw [A7.get_app]
        exact q4.mono fun j hj=>by have:=Xl j hj; rwa [Nat.mul_add,← Zbw]
     | pan v ws =>
      intro h' g' w' u q1 q2 q3 q4 q5 q6
      cases h2
      have hp:∀ j,UD (CT (n0+64*i)) (n0+64*i) j=true→CT (n0+64*(i+1)) j=true:=fun j hj=>by have:=Xl j hj; rwa [Nat.mul_add,← Zbw]
      exact hK F d h' g' t w' (FD.refl F d) (Ad.le_trans hle q1) (fun j hj=>by rw [q2 j (Ap.2 (by omega))]; exact hg j hj) (by simp only; omega) ⟨hs.size,(hs.kn.same hsame).mono (hs.im.same hsame) q1 q2,(by rw [A7.get_app]; exact q3),(hs.im.same hsame).mono (FN (by show n0+64*i≤n0+64*(i+1); omega)),(by rw [A7.get_app]; exact q4.mono hp)⟩ u q5 (V.okB_imp hp _ q6)
   · simp only [hw,Za4,if_false]
     have hact:(Act.mk t d).put o.dst Go.undef=Act.mk ((Act.mk t d).put o.dst Go.undef).tmps d:=RO (K4 _ _ _)
     rw [hact]
     refine Ik hP hc hy hK r (i+1) _ _ h g _ w hd' ⟨by rw [OZ]; exact hs.size,?_,hs.mem,?_,?_⟩ hle hg hr
     · exact(hs.kn.same hsame).putM hs.size hdst (by unfold V.den; rfl)
     · exact((hs.im.same hsame).mono (FN (by omega))).putM rfl
     · exact G1.mono hs.is_ (FN (by omega))
end
section
variable {Ty:Nat→Type} [rT:∀ k,Rep (Ty k)] [RFs] [UM Ty] [UML Ty] {F:Fr} {h:Ad} {g:GE} {w:World}
open Classical in
noncomputable def Zcb (F:Fr) (g:GE) (M M1:Mo Ty) (w:World):Nat→Option Obj:=fun b=>match F.X b with
 | some x=>some x
 | none=>if ∃ i c,M i=some c∧M1 i=none∧(g i).nl=false∧(g i).b=b then w.heap[b]? else none
theorem Al.hideF {M M1:Mo Ty} (hm:Al F h g M w) (hsub:∀ i c,M1 i=some c→M i=some c) :
  ∃ X,Al ⟨F.w,F.h,X⟩ h g M1 w∧∀ {F2:Fr} {d d2:List Deferred} {h2:Ad} {g2:GE} {M2:Mo Ty} {w2:World} {p:Nat→Bool} (rest:Nat→Bool),FD ⟨F.w,F.h,X⟩ F2 d d2→Al F2 h2 g2 M2 w2→Ad.le h h2→(∀ i,p i=true→g2 i=g i)→G1 p M →
   (∀ i c,M i=some c→rest i=true→M1 i=none)→∃ F3,FD F F3 d d2∧Al F3 h2 g2 (fun i=>if rest i=true then M i else M2 i) w2:=by
 have notX:∀ {j c},M1 j=some c→(g j).nl=false→Zcb F g M M1 w (g j).b=none:=fun {j c} hc hnl=>by
  unfold Zcb
  rw [(hm.own _ _ (hsub _ _ hc) hnl).2.2.1]
  simp only
  rw [if_neg]
  rintro⟨i,c',h1,h2,h3,h4⟩
  have:=hm.inj _ _ _ _ h1 (hsub _ _ hc) h3 hnl h4
  rw [this,hc] at h2
  cases h2
 refine⟨Zcb F g M M1 w,⟨hm.below,hm.le,hm.old,hm.has,fun i c hi=>hm.cell i c (hsub i c hi),?_,fun i j c d hi hj=>hm.inj i j c d (hsub _ _ hi) (hsub _ _ hj),?_,hm.glo⟩,?_⟩
 · intro i c hi hnl
   obtain⟨q1,q2,q3,q4⟩:=hm.own _ _ (hsub _ _ hi) hnl
   exact⟨q1,q2,notX hi hnl,q4⟩
 · intro b x hx
   replace hx:Zcb F g M M1 w b=some x:=hx
   unfold Zcb at hx
   split at hx
   · rename_i y hy
     cases hx
     exact hm.ext b _ hy
   · split at hx
     · rename_i hex
       obtain⟨i,c,h1,h2,h3,rfl⟩:=hex
       obtain⟨q1,q2,q3,q4⟩:=hm.own _ _ h1 h3
       exact⟨q1,hx,q4⟩
     · cases hx
 · intro F2 d d2 h2 g2 M2 w2 p rest hfd hm2 hle hg hin hrest
   have sub:∀ b,F2.X b=none→Zcb F g M M1 w b=none:=fun b hb=>by
    cases hx:Zcb F g M M1 w b with
    | none=>rfl
    | some x=>rw [hfd.X b x hx] at hb; cases hb
   have hX3:∀ b,Zcb F g M M1 w b=none→F.X b=none:=fun b hb=>by
    unfold Zcb at hb
    split at hb
    · cases hb
    · rename_i hy; exact hy
   refine⟨⟨F.w,F.h,fun b=>match F.X b with
    | some x=>some x
    | none=>match Zcb F g M M1 w b with
     | some _=>none
     | none=>F2.X b⟩,⟨rfl,rfl,fun b x hb=>by simp only [hb],?_⟩,?_⟩
   · obtain⟨bs,e,q1,q2⟩:=hfd.ds
     refine⟨bs,e,q1,fun b hb=>?_⟩
     obtain⟨q3,q4⟩:=q2 b hb
     have q3':Zcb F g M M1 w b=none:=q3
     exact⟨hX3 b q3',by simp only [hX3 b q3',q3',q4]⟩
   have hidden:∀ {i c},M i=some c→rest i=true→(g i).nl=false→∃ x,w.heap[(g i).b]? = some x∧Zcb F g M M1 w (g i).b=some x:=fun {i c} hc hr hnl=>by
    obtain⟨q1,q2,q3,q4⟩:=hm.own _ _ hc hnl
    refine⟨_,ZaJ q2,?_⟩
    unfold Zcb
    rw [q3]
    simp only
    rw [if_pos ⟨i,c,hc,hrest i c hc hr,hnl,rfl⟩,ZaJ q2]
   have get:∀ {i c},(if rest i=true then M i else M2 i)=some c→(rest i=true∧M i=some c)∨M2 i=some c:=fun {i c} hi=>by
    split at hi
    · rename_i hr; exact .inl ⟨hr,hi⟩
    · exact .inr hi
   refine⟨by have:=hm2.below; rw [hfd.w] at this; exact this,by have:=hm2.le; rw [hfd.h] at this; exact this,by have:=hm2.old; rw [hfd.w,hfd.h] at this; exact this,hm2.has,?_,?_,?_,?_,by have:=hm2.glo; rw [hfd.w] at this; exact this⟩
   · intro i c hi
     rcases get hi with⟨hr,hc⟩ | hc
     · rw [hg i (hin _ _ hc).1]
       refine BU.agree hg (hin _ _ hc).2 (BU.mono hle (BU.block (fun hnl=>?_) (hm.cell _ _ hc)))
       obtain⟨x,q1,q2⟩:=hidden hc hr hnl
       rw [q1]
       exact(hm2.ext _ _ (hfd.X _ _ q2)).2.1
     · exact hm2.cell _ _ hc
   · intro i c hi hnl
     rcases get hi with⟨hr,hc⟩ | hc
     · rw [hg i (hin _ _ hc).1] at hnl ⊢
       obtain⟨q1,q2,q3,q4⟩:=hm.own _ _ hc hnl
       obtain⟨x,p1,p2⟩:=hidden hc hr hnl
       obtain⟨p3,p4,p5⟩:=hm2.ext _ _ (hfd.X _ _ p2)
       exact⟨q1,(Zak.1 p4).1,by simp only [q3,p2],p5⟩
     · obtain⟨q1,q2,q3,q4⟩:=hm2.own _ _ hc hnl
       rw [hfd.w] at q1
       refine⟨q1,q2,?_,q4⟩
       simp only [hX3 _ (sub _ q3),sub _ q3,q3]
   · intro i j c d hi hj hni hnj hb
     rcases get hi with⟨hr,hc⟩ | hc
     · rw [hg i (hin _ _ hc).1] at hni hb
       rcases get hj with⟨hr',hc'⟩ | hc'
       · rw [hg j (hin _ _ hc').1] at hnj hb
         exact hm.inj _ _ _ _ hc hc' hni hnj hb
       · obtain⟨x,p1,p2⟩:=hidden hc hr hni
         have:=(hm2.own _ _ hc' hnj).2.2.1
         rw [← hb] at this
         rw [hfd.X _ _ p2] at this
         cases this
     · rcases get hj with⟨hr',hc'⟩ | hc'
       · rw [hg j (hin _ _ hc').1] at hnj hb
         obtain⟨x,p1,p2⟩:=hidden hc' hr' hnj
         have:=(hm2.own _ _ hc hni).2.2.1
         rw [hb] at this
         rw [hfd.X _ _ p2] at this
         cases this
       · exact hm2.inj _ _ _ _ hc hc' hni hnj hb
   · intro b x hx
     simp only at hx
     have key:F2.X b=some x:=by
      split at hx
      · rename_i y hy
        cases hx
        exact hfd.X b _ (show Zcb F g M M1 w b=some _ by unfold Zcb; rw [hy])
      · split at hx
        · cases hx
        · exact hx
     have:=hm2.ext b x key
     rw [hfd.w] at this
     exact this
theorem Al.hide {M M1:Mo Ty} (hm:Al F h g M w) (hsub:∀ i c,M1 i=some c→M i=some c) :
  ∃ X,Al ⟨F.w,F.h,X⟩ h g M1 w∧∀ {h2:Ad} {g2:GE} {M2:Mo Ty} {w2:World} {p:Nat→Bool} (rest:Nat→Bool),Al ⟨F.w,F.h,X⟩ h2 g2 M2 w2→Ad.le h h2→(∀ i,p i=true→g2 i=g i)→G1 p M →
   (∀ i c,M i=some c→rest i=true→M1 i=none)→Al F h2 g2 (fun i=>if rest i=true then M i else M2 i) w2:=by
 obtain⟨X,h1,h2⟩:=hm.hideF hsub
 exact⟨X,h1,fun rest q1 q2 q3 q4 q5=>let ⟨F3,e1,e2⟩:=h2 rest (FD.refl _ []) q1 q2 q3 q4 q5; e2.back e1⟩
end
section
variable {β:Type}
structure Akb (f:(Nat→β)→(Nat→β)) (W:Nat→Bool):Prop where
 off:∀ X j,W j=false→f X j=X j
 on:∀ X Y j,W j=true→f X j=f Y j
def Dw (D:Nat→Bool):Nat→List (((Nat→β)→(Nat→β))×(Nat→Bool))→(Nat→β)→(Nat→β)
 | _,[],X=>X
 | i,f::fs,X=>Dw D (i+1) fs (if D i=true then f.1 X else X)
def AhL (fs:List (((Nat→β)→(Nat→β))×(Nat→Bool))):Prop:=∀ f∈fs,Akb f.1 f.2
theorem CE {D D':Nat→Bool} {j:Nat}:∀ {fs:List (((Nat→β)→(Nat→β))×(Nat→Bool))} {i:Nat} {X Y:Nat→β},AhL fs→(∀ k f,fs[k]? = some f→D (i+k)≠D' (i+k)→f.2 j=false)→X j=Y j→Dw D i fs X j=Dw D' i fs Y j
 | [],i,X,Y,_,_,hx=>hx
 | f::fs,i,X,Y,hl,hd,hx=>by
  unfold Dw
  have hf:=hl f (by simp)
  refine CE (fun f hf=>hl f (by simp [hf])) (fun k f' hk hne=>hd (k+1) f' (by simpa using hk) (by rwa [show i+(k+1)=i+1+k by omega])) ?_
  have same:f.1 X j=f.1 Y j:=by
   cases hw:f.2 j with
   | true=>exact hf.on X Y j hw
   | false=>rw [hf.off X j hw,hf.off Y j hw]; exact hx
  by_cases hdd:D i=D' i
  · rw [hdd]
    split
    · exact same
    · exact hx
  · have hw:=hd 0 f rfl (by simpa using hdd)
    split <;> split <;> first | exact same | exact hx | (rw [hf.off _ _ hw]; exact hx)
theorem T4 {D:Nat→Bool} {j:Nat} {f:((Nat→β)→(Nat→β))×(Nat→Bool)} {Z:Nat→β}:∀ {fs:List (((Nat→β)→(Nat→β))×(Nat→Bool))} {i k:Nat} {X:Nat→β},AhL fs→fs[k]? = some f→D (i+k)=true→f.2 j=true→(∀ k' f',fs[k']? = some f'→k<k'→D (i+k')=true→f'.2 j=false)→Dw D i fs X j=f.1 Z j
 | [],i,k,X,_,hk,_,_,_=>by simp at hk
 | f0::fs,i,0,X,hl,hk,hD,hw,hlater=>by
  simp at hk
  subst hk
  unfold Dw
  rw [if_pos (by simpa using hD)]
  have hf:=hl f0 (by simp)
  have:Dw D (i+1) fs (f0.1 X) j=Dw (fun _=>false) (i+1) fs (f0.1 Z) j:=by
   refine CE (fun f hf=>hl f (by simp [hf])) (fun k' f' hk' hne=>?_) (hf.on X Z j hw)
   refine hlater (k'+1) f' (by simpa using hk') (by omega) ?_
   rw [show i+(k'+1)=i+1+k' by omega]
   cases hx:D (i+1+k') with
   | true=>rfl
   | false=>exact absurd hx hne
  rw [this]
  have none:∀ (fs:List (((Nat→β)→(Nat→β))×(Nat→Bool)))(i:Nat)(X:Nat→β),Dw (fun _=>false) i fs X=X:=by
   intro fs
   induction fs with
   | nil=>intro i X; rfl
   | cons f fs ih=>intro i X; unfold Dw; rw [if_neg (by simp)]; exact ih _ _
  rw [none]
 | f0::fs,i,k+1,X,hl,hk,hD,hw,hlater=>by
  unfold Dw
  exact T4 (fun f hf=>hl f (by simp [hf])) (by simpa using hk) (by rwa [show i+1+k=i+(k+1) by omega]) hw (fun k' f' hk' hlt hD'=>hlater (k'+1) f' (by simpa using hk') (by omega) (by rwa [show i+(k'+1)=i+1+k' by omega]))
end
section
variable {Ty:Nat→Type}
def Aar (rc:Rc Ty):((Nat→Option (AE Ty))→(Nat→Option (AE Ty)))×(Nat→Bool):=(fun M=>Mo.app M rc.ws,fun j=>AF (K0 rc.ws) j)
def AdK (o:Oper) (rc:Rc Ty):((Nat→Option (V Ty))→(Nat→Option (V Ty)))×(Nat→Bool):=(fun X k=>if AF (Ll o) k=true then some rc.v else X k,fun k=>AF (Ll o) k)
def Hf:List Oper→List (Rc Ty)→List (((Nat→Option (V Ty))→(Nat→Option (V Ty)))×(Nat→Bool))
 | o::os,r::rs=>AdK o r::Hf os rs
 | _,_=>[]
theorem AfE:∀ {ws:List (Nat×Option (AE Ty))} {M M':Mo Ty} {j:Nat},j∈ws.map (·.1)→Mo.app M ws j=Mo.app M' ws j
 | [],M,M',j,hj=>by simp at hj
 | (i,c)::r,M,M',j,hj=>by
  unfold Mo.app
  by_cases hr:j∈r.map (·.1)
  · exact AfE hr
  · have hn:∀ x∈r,x.1≠j:=fun x hx he=>hr (ZaY.2 ⟨x,hx,he⟩)
    rw [Mo.app_not hn,Mo.app_not hn]
    simp only [ZbB,Zam] at hj
    rcases hj with rfl | hj
    · simp [Mo.put]
    · exact absurd hj hr
theorem AhM (rc:Rc Ty):Akb (Aar rc).1 (Aar rc).2 where
 off:=fun X j hj=>by
  refine Mo.app_not fun x hx he=>?_
  have:AF (K0 rc.ws) j=true:=Br.2 (by rw [← he]; exact List.mem_map_of_mem hx)
  simp only [Aar] at hj
  rw [this] at hj
  cases hj
 on:=fun X Y j hj=>AfE (Br.1 hj)
theorem AhN (o:Oper) (rc:Rc Ty):Akb (AdK o rc).1 (AdK o rc).2 where
 off:=fun X j hj=>by
  simp only [AdK] at hj ⊢
  rw [hj]
  rfl
 on:=fun X Y j hj=>by
  simp only [AdK] at hj ⊢
  rw [hj]
  rfl
theorem LS (rs:List (Rc Ty)):AhL (rs.map Aar):=fun f hf=>by
 obtain⟨rc,_,rfl⟩:=ZaY.1 hf
 exact AhM rc
theorem JU:∀ (os:List Oper)(rs:List (Rc Ty)),AhL (Hf os rs)
 | [],rs,f,hf=>by simp [Hf] at hf
 | o::os,[],f,hf=>by simp [Hf] at hf
 | o::os,r::rs,f,hf=>by
  unfold Hf at hf
  rcases Zam.1 hf with rfl | hf
  · exact AhN o r
  · exact JU os rs f hf
theorem JV:∀ {os:List Oper} {rs:List (Rc Ty)} {k:Nat} {f},(Hf os rs)[k]? = some f→∃ o r,os[k]? = some o∧rs[k]? = some r∧f=AdK o r
 | [],rs,k,f,h=>by simp [Hf] at h
 | o::os,[],k,f,h=>by simp [Hf] at h
 | o::os,r::rs,0,f,h=>by simp [Hf] at h; exact⟨o,r,rfl,rfl,h.symm⟩
 | o::os,r::rs,k+1,f,h=>by simp only [Hf,List.getElem?_cons_succ] at h; simpa using JV h
theorem Ac0:∀ {os:List Oper} {rs:List (Rc Ty)} {k:Nat} {o r},os[k]? = some o→rs[k]? = some r→(Hf os rs)[k]? = some (AdK o r)
 | o::os,r::rs,0,o',r',h1,h2=>by simp at h1 h2; subst h1; subst h2; rfl
 | o::os,r::rs,k+1,o',r',h1,h2=>by simp only [Hf,List.getElem?_cons_succ]; exact Ac0 (by simpa using h1) (by simpa using h2)
 | [],_,k,o',r',h1,_=>by simp at h1
 | o::os,[],k,o',r',_,h2=>by simp at h2
theorem K5 {α:Type} (ns:List Nat):∀ (l:List (Nat×α))(k:Nat),AL.get (LK ns l) k=if AF ns k=true then AL.get l k else none
 | [],k=>by unfold LK AL.get; split <;> rfl
 | (i,x)::r,k=>by
  unfold LK
  have hc:AL.get ((i,x)::r) k=bif Nat.beq i k then some x else AL.get r k:=rfl
  cases hm:AF ns i with
  | true =>
   rw [Zab]
   show(bif Nat.beq i k then some x else AL.get (LK ns r) k)=_
   rw [hc]
   cases hb:Nat.beq i k with
   | true=>have:=Zac hb; subst this; rw [if_pos hm]; rfl
   | false=>rw [Zad,Zad]; exact K5 ns r k
  | false =>
   rw [Zad,K5 ns r k,hc]
   cases hb:Nat.beq i k with
   | true=>have:=Zac hb; subst this; rw [hm]; rfl
   | false=>rfl
theorem T5 (m:List (Nat×V Ty)) (o:Oper) (rc:Rc Ty) (k:Nat):AL.get (putM m o.dst rc.v) k=(AdK o rc).1 (AL.get m) k:=by
 unfold AdK Ll
 cases o.dst with
 | none=>rfl
 | some d =>
  show(bif Nat.beq d k then some rc.v else AL.get m k)=if AF [d] k=true then some rc.v else AL.get m k
  unfold AF AF
  cases Nat.beq d k <;> rfl
def Ni (ops:Array Oper) (X:Nat→Option (V Ty)) (o:Oper):Option Bool:=match o.guard with
 | none=>some true
 | some (j,w)=>match ops[j]? with
  | some oj=>match oj.dst with
   | some d=>match X d with
    | some (.bool b)=>some (b == w)
    | some .undef=>some false
    | _=>none
   | none=>none
  | none=>none
theorem AdL {ops:Array Oper} {o:Oper} {m:List (Nat×V Ty)} {ρ:Type} {yes no:List (Nat×V Ty)→Tr ρ} {x:ρ} (hr:(VW ops m o yes no).runK some=some x) :
  ∃ m',We m' m∧((Ni ops (AL.get m) o=some true∧(yes m').runK some=some x)∨(Ni ops (AL.get m) o=some false∧(no m').runK some=some x)):=by
 unfold VW at hr
 split at hr
 · rename_i hg
   exact⟨m,fun _=>rfl,.inl ⟨by simp only [Ni,hg],hr⟩⟩
 · rename_i j wnt hg
   split at hr
   · rename_i oj hoj
     split at hr
     · rename_i dd hd
       split at hr
       · rename_i b hb
         rw [Tr.runK_br] at hr
         have hsame:∀ b',b=b'→We ((dd,.bool b')::m) m:=fun b' hbb k=>by
          subst hbb
          show(bif Nat.beq dd k then some (V.bool b) else AL.get m k)=AL.get m k
          cases hk2:Nat.beq dd k with
          | true=>have:=Zac hk2; subst this; exact hb.symm
          | false=>rfl
         have hwf:Ni ops (AL.get m) o=some (b == wnt):=by simp only [Ni,hg,hoj,hd,hb]
         rw [hwf]
         cases wnt <;> cases b
         · exact⟨_,hsame _ rfl,.inl ⟨rfl,hr⟩⟩
         · exact⟨_,hsame _ rfl,.inr ⟨rfl,hr⟩⟩
         · exact⟨_,hsame _ rfl,.inr ⟨rfl,hr⟩⟩
         · exact⟨_,hsame _ rfl,.inl ⟨rfl,hr⟩⟩
       · rename_i hb
         exact⟨m,fun _=>rfl,.inr ⟨by simp only [Ni,hg,hoj,hd,hb],hr⟩⟩
       · cases hr
     · cases hr
   · cases hr
def Wf [RFs] [UV Ty] [UM Ty] (P:Program) (N:Nat) (call:Bi Ty) (ops:Array Oper) (n0 j:Nat) (o:Oper) (rc:Rc Ty) (X:Nat→Option (V Ty)) (M:Mo Ty):Prop :=
 VV N o.dst=true∧((Ni ops X o=some true∧∃ m' s',(∀ x,AL.get m' x=if AF (Zg o.op.operands.toList) x=true then X x else none)∧(∀ x,AL.get s' x=if AF rc.rd x=true then M x else none) ∧
   (R5 P call (n0+64*j) m' s' o.op).runK some=some (.ok rc.v rc.ws)∧Ad8 (n0+64*j) rc.rd (K0 rc.ws)=true) ∨
  (Ni ops X o=some false∧rc.v=.undef∧rc.ws=[]))
theorem Hu {β:Type}:∀ (fs:List (((Nat→β)→(Nat→β))×(Nat→Bool)))(i:Nat)(X:Nat→β),Dw (fun a=>decide (a<i)) i fs X=X:=by
 have key:∀ (fs:List (((Nat→β)→(Nat→β))×(Nat→Bool)))(i n:Nat)(X:Nat→β),n≤i→Dw (fun a=>decide (a<n)) i fs X=X:=by
  intro fs
  induction fs with
  | nil=>intro i n X _; rfl
  | cons f fs ih =>
   intro i n X hn
   unfold Dw
   rw [if_neg (by simp; omega)]
   exact ih (i+1) n X (by omega)
 exact fun fs i X=>key fs i i X (Zas _)
theorem NK [RFs] [UV Ty] [UM Ty] {P:Program} {N:Nat} {call:Bi Ty} {ops:Array Oper} {n0:Nat}:∀ {r:List Oper} {i:Nat} {m:List (Nat×V Ty)} {s:A7 Ty} {rs:List (Rc Ty)},(Abp P N call ops n0 i r m s).runK some=some rs →
  rs.length=r.length∧∀ (k:Nat)(o:Oper)(rc:Rc Ty),r[k]? = some o→rs[k]? = some rc→Wf P N call ops n0 (i+k) o rc (Dw (fun a=>decide (a<i+k)) i (Hf r rs) (AL.get m)) (Dw (fun a=>decide (a<i+k)) i (rs.map Aar) (AL.get s))
 | [],i,m,s,rs,hr=>by cases hr; exact⟨rfl,by simp⟩
 | o::r,i,m,s,rs,hr=>by
  unfold Abp at hr
  cases hd:VV N o.dst with
  | false=>rw [hd] at hr; cases hr
  | true =>
   rw [hd,Zab] at hr
   obtain⟨m',hsame,hc⟩:=AdL hr
   have fin:∀ {rc:Rc Ty} {rs':List (Rc Ty)} {m1:List (Nat×V Ty)} {s1:A7 Ty},rs=rc::rs'→(Abp P N call ops n0 (i+1) r m1 s1).runK some=some rs'→(∀ k,AL.get m1 k=(AdK o rc).1 (AL.get m) k)→AL.get s1=(Aar rc).1 (AL.get s)→Wf P N call ops n0 i o rc (AL.get m) (AL.get s) →
     rs.length=(o::r).length∧∀ (k:Nat)(o':Oper)(rc':Rc Ty),(o::r)[k]? = some o'→rs[k]? = some rc'→Wf P N call ops n0 (i+k) o' rc' (Dw (fun a=>decide (a<i+k)) i (Hf (o::r) rs) (AL.get m)) (Dw (fun a=>decide (a<i+k)) i (rs.map Aar) (AL.get s)):=by
    intro rc rs' m1 s1 hrs hrun hm1 hs1 hfact
    subst hrs
    obtain⟨q1,q2⟩:=NK hrun
    refine⟨by simp [q1],fun k o' rc' ho hrc=>?_⟩
    cases k with
    | zero =>
     simp at ho hrc
     subst ho; subst hrc
     rw [Nat.add_zero,Hu,Hu]
     exact hfact
    | succ k =>
     have:=q2 k o' rc' (by simpa using ho) (by simpa using hrc)
     have e1:Dw (fun a=>decide (a<i+(k+1))) i (Hf (o::r) (rc::rs')) (AL.get m)=Dw (fun a=>decide (a<i+1+k)) (i+1) (Hf r rs') (AL.get m1):=by
      show Dw _ (i+1) (Hf r rs') (if decide (i<i+(k+1))=true then(AdK o rc).1 (AL.get m) else AL.get m)=_
      rw [if_pos (by simp),show i+(k+1)=i+1+k by omega]
      congr 1
      exact(funext hm1).symm
     have e2:Dw (fun a=>decide (a<i+(k+1))) i ((rc::rs').map Aar) (AL.get s)=Dw (fun a=>decide (a<i+1+k)) (i+1) (rs'.map Aar) (AL.get s1):=by
      show Dw _ (i+1) (rs'.map Aar) (if decide (i<i+(k+1))=true then(Aar rc).1 (AL.get s) else AL.get s)=_
      rw [if_pos (by simp),show i+(k+1)=i+1+k by omega,hs1]
     rw [e1,e2,show i+(k+1)=i+1+k by omega]
     exact this
   rcases hc with⟨hw,hr⟩ | ⟨hw,hr⟩
   · simp only [Zf] at hr
     obtain⟨oc,h1,h2⟩:=Tr.run_bind hr
     cases oc with
     | pan v ws=>cases h2
     | ok v ws =>
      simp only [V.frc_eq,Xa,WZ] at h2
      cases hsub:Ad8 (n0+64*i) (AiS m' s o.op) (K0 ws) with
      | false=>rw [hsub] at h2; cases h2
      | true =>
       rw [hsub,Zab] at h2
       obtain⟨rs',h3,h4⟩:=Tr.run_bind h2
       cases h4
       refine fin rfl h3 (fun k=>?_) (by rw [A7.get_app]; rfl) ⟨hd,.inl ⟨hw,_,_,fun x=>?_,fun x=>K5 _ _ _,h1,hsub⟩⟩
       · rw [T5 m' o ⟨v,ws,AiS m' s o.op⟩]
         have:AL.get m' = AL.get m:=funext hsame
         rw [this]
       · rw [K5,hsame x]
   · obtain⟨rs',h3,h4⟩:=Tr.run_bind hr
     cases h4
     refine fin rfl h3 (fun k=>?_) rfl ⟨hd,.inr ⟨hw,rfl,rfl⟩⟩
     rw [T5 m' o ⟨.undef,[],[]⟩]
     have:AL.get m' = AL.get m:=funext hsame
     rw [this]
theorem Qs {n0:Nat}:∀ {r:List Oper} {rs:List (Rc Ty)} {i:Nat} {m:List (Nat×V Ty)} {s:A7 Ty},rs.length=r.length→∃ mf sf,Qj n0 i r rs m s=⟨.normal,⟨mf,sf,n0+64*(i+r.length)⟩⟩∧AL.get mf=Dw (fun _=>true) i (Hf r rs) (AL.get m)∧AL.get sf=Dw (fun _=>true) i (rs.map Aar) (AL.get s)
 | [],[],i,m,s,_=>⟨m,s,rfl,rfl,rfl⟩
 | [],_::_,i,m,s,h=>by simp at h
 | _::_,[],i,m,s,h=>by simp at h
 | o::r,rc::rs,i,m,s,h=>by
  obtain⟨mf,sf,h1,h2,h3⟩:=Qs (n0:=n0) (r:=r) (rs:=rs) (i:=i+1) (m:=putM m o.dst rc.v) (s:=s.app rc.ws) (by simpa using h)
  refine⟨mf,sf,?_,?_,?_⟩
  · show Qj n0 (i+1) r rs _ _=_
    rw [h1]
    congr 2
    simp only [Zau]
    congr 1
    omega
  · rw [h2]
    show _=Dw _ (i+1) (Hf r rs) (if true=true then(AdK o rc).1 (AL.get m) else AL.get m)
    rw [if_pos rfl]
    congr 1
    exact funext fun k=>T5 m o rc k
  · rw [h3,A7.get_app]
    rfl
end
theorem Z7:∀ (l:List Nat)(v:Nat)(b:Nat),Be (l++[v]) b=if b<l.length then Be l b else if b=l.length then v else 0
 | [],v,0=>rfl
 | [],v,b+1=>by simp [Be]
 | x::l,v,0=>by simp [Be]
 | x::l,v,b+1=>by
  show Be (l++[v]) b=_
  rw [Z7 l v b]
  simp only [Zau,Nat.add_lt_add_iff_right,Nat.add_right_cancel_iff]
  rfl
theorem NL {ES:List (List Nat)} {D:Nat→Bool} (hcl:∀ (b:Nat)(es:List Nat),ES[b]? = some es→D b=true→∀ e∈es,D e=true) (hback:∀ (b:Nat)(es:List Nat),ES[b]? = some es→∀ e∈es,e<b) :
  ∀ (todo done:List (List Nat))(acc:List Nat),ES=done++todo→acc.length=done.length→(∀ (b:Nat)(es:List Nat),ES[b]? = some es→b<acc.length→(∀ e∈es,D e=true)→∀ a,Nat.testBit (Be acc b) a=true→D a=true) →
   ∀ (b:Nat)(es:List Nat),ES[b]? = some es→(∀ e∈es,D e=true)→∀ a,Nat.testBit (Be (Xb todo acc) b) a=true→D a=true
 | [],done,acc,hE,hl,hacc,b,es,hb,he,a,ha=>by
  refine hacc b es hb ?_ he a ha
  have:=(Zaz.1 hb).1
  rw [hE,Zbh] at this
  omega
 | es0::todo,done,acc,hE,hl,hacc,b,es,hb,he,a,ha=>by
  unfold Xb at ha
  refine NL hcl hback todo (done++[es0]) (acc++[es0.foldl (fun s e=>s ||| 2 ^ e ||| Be acc e) 0]) (by simp [hE]) (by simp [hl]) ?_ b es hb he a ha
  intro b es hb hlt he a ha
  rw [Z7] at ha
  split at ha
  · rename_i hlt'; exact hacc b es hb hlt' he a ha
  · split at ha
    · rename_i _ hbl
      have hes:es=es0:=by
       have:ES[b]? = some es0:=by rw [hE,hbl,hl]; simp
       rw [hb] at this
       exact Option.some.inj this
      subst hes
      have key:∀ (l:List Nat)(s:Nat),(∀ e∈l,e∈es)→(∀ a,Nat.testBit s a=true→D a=true)→∀ a,Nat.testBit (l.foldl (fun s e=>s ||| 2 ^ e ||| Be acc e) s) a=true→D a=true:=by
       intro l
       induction l with
       | nil=>intro s _ hs a ha; exact hs a ha
       | cons e l ih =>
        intro s hl hs a ha
        refine ih _ (fun e he=>hl e (by simp [he])) (fun a ha=>?_) a ha
        rw [Nat.testBit_or,Nat.testBit_or,ZaS,ZaS] at ha
        have hem:=hl e (by simp)
        rcases ha with(ha | ha) | ha
        · exact hs a ha
        · rw [Nat.testBit_two_pow] at ha
          have:e=a:=by simpa using ha
          rw [← this]; exact he e hem
        · have helt:=hback b es hb e hem
          have hee:∃ ee,ES[e]? = some ee:=⟨_,Zap (by have:=(Zaz.1 hb).1; omega)⟩
          obtain⟨ee,hee⟩:=hee
          exact hacc e ee hee (by omega) (hcl e ee hee (he e hem)) a ha
      exact key es 0 (fun e he=>he) (fun a ha=>by simp at ha) a ha
    · simp at ha
end Go.Proofs.YtkpgggfibljflaaGreatDoor
