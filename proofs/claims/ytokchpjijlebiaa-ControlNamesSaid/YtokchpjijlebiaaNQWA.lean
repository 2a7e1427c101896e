/- Each call computes its plain function. -/
import Derived.Test.YtokchpjijlebiaaProg
import Derived.Test.YtokchpjijlebiaaNQP0
set_option linter.all false
namespace Go.Proofs.Ytokchpjijlebiaa
open Go Go.RowKit
open Rep (rep)
open KRep (kv)
open VRep (rv)
abbrev Hl (a_a:Option Addr) (a:List Int) (c_a:Nat) (a_b:Option Addr) (b:List Int) (c_b:Nat):TM:=[tS 0 a_a a.length c_a,tS 1 a_b b.length c_b]
set_option maxRecDepth 100000 in
set_option maxHeartbeats 4000000 in
theorem Cy (n:Nat) {h:Ad} {w:World} (hh:Dv h w) (a:List Int) {a_a:Option Addr} {c_a:Nat} (hr_a:Ar h a_a c_a a) (b:List Int) {a_b:Option Addr} {c_b:Nat} (hr_b:Ar h a_b c_b b) {r:Bool} (H:Dw n a b=some r) :
  Calls Try.prog 44 #[.slice a_a a.length c_a,.slice a_b b.length c_b] w (D6 (fun h v=>v=.bool r) h w):=by
 refine enter 26 [.c (.slice a_a a.length c_a),.c (.slice a_b b.length c_b)] Try.func44 rfl rfl rfl rfl fun t hk=>?_
 have hm:=Ah.begin h w hh
 unfold Dw at H
 refine QT (Ab (Rk 0 1 (Hl a_a a c_a a_b b c_b) hk hm fun bf an=>?_))
 refine wf (QT (QT (Ab (Rk 0 5 ((tB 10 (((a.length:Nat):Int) != ((b.length:Nat):Int)))::(Hl a_a a c_a a_b b c_b)) an hm fun bi u=>?_))))
 refine wf (wC ((((a.length:Nat):Int) != ((b.length:Nat):Int))) u (fun p=>?_) (fun p=>?_))
 ·
  rw [p,QW] at H
  refine QT (Ab (Rk 0 1 [tB 4 false] u hm fun bm az=>?_))
  refine wf (wp_ret ?_)
  obtain rfl:=QZ H
  exact rt (.one (.c (.bool false))) az hm rfl
 ·
  rw [p,QV] at H
  refine wp_skip (QT (QT (Ab (Rk 0 1 ((tI 5 0)::(Hl a_a a c_a a_b b c_b)) u hm fun bp a0=>?_))))
  refine wf ?_
  obtain⟨ag,ae,H⟩:=A3 H
  refine A7 (fun a' w'=>∃ (ai:Unit)(ab:Array Value)(k:Ad),a' = ⟨ab,[]⟩∧Kn 26 [] [] ab∧Ah ⟨w,h,Az⟩ k [] [] [] w'∧Ad.le h k∧ag=.go ai) ?_ ?_
  ·
   refine wp_block ?_
   refine A5 (fun a9 a' w'=>∃ (x_v10:Int)(ac:Array Value)(l:Ad),a' = ⟨ac,[]⟩∧Kn 26 [] ((tI 5 x_v10)::(Hl a_a a c_a a_b b c_b)) ac∧Ah ⟨w,h,Az⟩ l [] [] [] w'∧Ad.le h l∧EX a9 a b x_v10=some ag) n ?_ ?_
   ·
    exact QY 0 ⟨_,_,rfl,a0.kp,hm,Ad.le_refl _,ae⟩
   ·
    rintro z _ bq ⟨x_v10,ac,l,rfl,ao,e,g,d⟩
    clear ae
    obtain _ | z:=z
    ·
     rw [EX] at d; cases d
    rw [EX] at d
    replace hr_a:=hr_a.mono g
    replace hr_b:=hr_b.mono g
    refine QT (QT (Ab (Rk 0 4 ((tB 14 (decide (x_v10<((a.length:Nat):Int))))::(tI 5 x_v10)::(Hl a_a a c_a a_b b c_b)) ao e fun bg s=>?_)))
    refine wf (wC (decide (x_v10<((a.length:Nat):Int))) s (fun m=>?_) (fun m=>?_))
    ·
     rw [m,QW] at d
     refine wp_skip (QT (wp_block (QT (Ao (by kernel_rfl) ?_))))
     replace e:=e.drew
     refine At [] [] [] ?_
     refine Dr [0,1] [1,0] ((tI 18 x_v10)::(tS 17 a_a a.length c_a)::(tI 5 x_v10)::(Hl a_a a c_a a_b b c_b)) s e fun bh ap=>?_
     obtain⟨x19,ex19,d⟩:=A3 d
     obtain⟨a1,a3,a7⟩:=Ak ex19
     obtain⟨i,aa,bc,aj,a5,al⟩:=hr_a.get (by decide) a7
     obtain rfl:=a5
     have y:=e.addPlc (b:=i) (o:=aa+(x_v10:Int).toNat*1) (cs:=[.int .i64 x19]) (fun j c hj=>al j _ (Al hj)) rfl (by kernel_rfl) (by kernel_rfl)
     refine AY 2 (x_v10) [.int .i64 x19] (fun _ _ _ _ _ h=>h) rfl rfl (rfl) rfl (by decide) (by kernel_rfl) (by kernel_rfl) ap e.plOk (by rfl) (by rfl) (by rfl) aj (by rfl) a1 a3 (by kernel_rfl) fun ba (aq:Kn 26 [(i,aa+(x_v10:Int).toNat*1)] ((tP 19 0 0)::(tI 18 x_v10)::(tS 17 a_a a.length c_a)::(tI 5 x_v10)::(Hl a_a a c_a a_b b c_b)) ba)=>?_
     refine Dr [3,4,5] (dn 5) ((tI 22 x_v10)::(tS 21 a_b b.length c_b)::(tI 20 x19)::(tI 5 x_v10)::(Hl a_a a c_a a_b b c_b)) aq y fun bj ar=>?_
     obtain⟨x23,ex23,d⟩:=A3 d
     obtain⟨a2,a4,a8⟩:=Ak ex23
     obtain⟨ad,ah,bd,ak,a6,am⟩:=hr_b.get (by decide) a8
     obtain rfl:=a6
     have f:=y.addPlc (b:=ad) (o:=ah+(x_v10:Int).toNat*1) (cs:=[.int .i64 x23]) (fun j c hj=>am j _ (Al hj)) rfl (by kernel_rfl) (by kernel_rfl)
     refine AY 6 (x_v10) [.int .i64 x23] (fun _ _ _ _ _ h=>h) rfl rfl (rfl) rfl (by decide) (by kernel_rfl) (by kernel_rfl) ar y.plOk (by rfl) (by rfl) (by rfl) ak (by rfl) a2 a4 (by kernel_rfl) fun bb (au:Kn 26 [(i,aa+(x_v10:Int).toNat*1),(ad,ah+(x_v10:Int).toNat*1)] ((tP 23 1 0)::(tI 22 x_v10)::(tS 21 a_b b.length c_b)::(tI 20 x19)::(tI 5 x_v10)::(Hl a_a a c_a a_b b c_b)) bb)=>?_
     refine Dr [7,8] (dn 8) ((tB 25 (x19 != x23))::(tI 5 x_v10)::(Hl a_a a c_a a_b b c_b)) au f fun bk x=>?_
     refine AH (by kernel_rfl) (wC ((x19 != x23)) x (fun q=>?_) (fun q=>?_))
     ·
      rw [q,QW] at d
      refine QT (Ab (Rk 0 1 [tB 4 false] x f fun bl av=>?_))
      refine wf (wp_ret ?_)
      obtain rfl:=QZ d
      obtain rfl:=QZ H
      exact rt (.one (.c (.bool false))) av f rfl
     ·
      rw [q,QV] at d
      refine wp_skip (Ab (Rk 0 3 ((tI 5 (IntKind.i64.wrap (x_v10+1)))::(Hl a_a a c_a a_b b c_b)) x f fun bn aw=>?_))
      refine wf ?_
      exact QY z ⟨Nat.lt_succ_self _,QY (IntKind.i64.wrap (x_v10+1)) ⟨_,_,rfl,(aw.keep [5,0,1] (by rfl)).cut 0 (by kernel_rfl),f.cutPl 0 (by kernel_rfl),g,d⟩⟩
    ·
     rw [m,QV] at d
     refine wp_exit ?_
     obtain rfl:=QZ d
     exact QY () ⟨_,_,rfl,s.kp,e,g,rfl⟩
  ·
   rintro _ br ⟨ai,ab,k,rfl,ax,af,be,rfl⟩
   rw [Ex.bind_go] at H
   refine QT (Ab (Rk 0 1 [tB 4 true] ax af fun bo ay=>?_))
   refine wf (wp_ret ?_)
   obtain rfl:=QZ H
   exact rt (.one (.c (.bool true))) ay af rfl
end Go.Proofs.Ytokchpjijlebiaa
