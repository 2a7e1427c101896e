/- What a proof leans on: a machine that steps through code, and what functions compute. -/
import Derived.Test.YtkpgggfibljflaaGreatDoorgQS07
import Derived.Test.YtkpgggfibljflaaGreatDoorProg
import Derived.KernelRfl
import Derived.Lib.LaidTab
import Derived.Lib.ItoaNum
set_option linter.all false
namespace Go.Proofs.YtkpgggfibljflaaGreatDoor
open Go Go.RowKit Go.Proofs
theorem Aj:Tryz.prog.follows .mixedOrders=true:=by kernel_rfl
theorem Ae:E5 Tryz.prog:=AbC (by kernel_rfl)
noncomputable def Zfi (r:Nat) (f:Func):LI:=match Xm r (Bs f) with
 | some (.rangeFunc _ ps a b)=>⟨f.ntmps,ps,a,b⟩
 | _=>⟨0,#[],.skip,.skip⟩
def AeU (w:World):Prop:=Lib.TabIs Tryz.prog w "internal/strconv.uint64pow10" .u64 Lib.pow10Tab∧(∃ tp p,w.var? Tryz.prog "strconv.ErrSyntax"=some #[.iface tp p])∧(∃ tp p,w.var? Tryz.prog "strconv.ErrRange"=some #[.iface tp p])∧(∃ m,w.var? Tryz.prog "internal/bytealg.MaxLen"=some #[.int .i64 m])∧8≤w.heap.size
theorem M9 {w w':World} {n:String} {i:Nat} (hi:Tryz.prog.globalNamed n=some i) (h:w'.heap[i]? = w.heap[i]?):w'.var? Tryz.prog n=w.var? Tryz.prog n:=by
 unfold World.var?
 rw [hi]
 simp [h]
theorem AbJ (w w':World) (h:AeU w) (hb:∀ b,b<8→w'.heap[b]? = w.heap[b]?):AeU w':=by
 obtain⟨h1,h2,h3,h4,h5⟩:=h
 refine⟨?_,?_,?_,?_,?_⟩
 · unfold Lib.TabIs; rw [M9 (i:=2) (by kernel_rfl) (hb 2 (by decide))]; exact h1
 · rw [M9 (i:=0) (by kernel_rfl) (hb 0 (by decide))]; exact h2
 · rw [M9 (i:=1) (by kernel_rfl) (hb 1 (by decide))]; exact h3
 · rw [M9 (i:=3) (by kernel_rfl) (hb 3 (by decide))]; exact h4
 · have:=hb 7 (by decide)
   rw [ZaB (by omega:7<w.heap.size)] at this
   exact(Zag.1 this).1
noncomputable instance : RFs:=⟨fun t=>match t with
 | 69=>Zfi 4 Tryz.f69
 | 121=>Zfi 8 Tryz.f121
 | 44=>Zfi 7 Tryz.f44
 | 38=>Zfi 4 Tryz.f38
 | _=>⟨0,#[],.skip,.skip⟩,fun tys=>match tys with
 | [180]=>[212,213,214]
 | [93]=>[302,303,304]
 | [32,3,184,267]=>[238,239,240,241,242]
 | [110,243]=>[189,190,191,192,193,194,195,196,197,198,199,200]
 | _=>[],AeU,8,fun _ h=>h.2.2.2.2,AbJ⟩
theorem Aen : @KL Tryz.prog 227 (Ty 227) (Te (Ty:=Ty) (k:=227) rfl) :=
 @KL.struct Tryz.prog FX (Te (Ty:=Ty) (k:=227) rfl) inferInstance 227 3 (by decide) (fun k=>[.int .i64 k.machine,.int .i64 k.seq]) (fun k=>rfl) (by kernel_rfl) (fun k=>by kernel_rfl) (fun k=>rfl) fun a b =>
  ⟨a.machine == b.machine && (a.seq == b.seq && true),by kernel_rfl,by cases a; cases b; simp⟩
instance : UMP Ty Tryz.prog where
 kl k hk:=by
  rcases Kt hk with rfl | rfl | rfl
  · exact @KL.int Tryz.prog 3 (by kernel_rfl)
  · exact @KL.string Tryz.prog 9 (by kernel_rfl)
  · exact Aen
theorem Xs {N:Nat} {callI:AT Ty} {fn:Func} {r tag:Nat} {ks:List Nat} {g0:Operand} (hc:Cm Tryz.prog callI) (h:DT (.rf r) fn=.rangeFunc g0 (RFs.rf tag).ps (RFs.rf tag).assign (RFs.rf tag).body) (hn:(RFs.rf tag).n=N):Bm true Tryz.prog N (Aeu Tryz.prog callI g0 tag ks) (DT (.rf r) fn):=by
 rw [h]
 subst hn
 exact Ael Ae hc rfl
end Go.Proofs.YtkpgggfibljflaaGreatDoor
