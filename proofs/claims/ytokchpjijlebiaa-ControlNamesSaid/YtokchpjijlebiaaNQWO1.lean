/- Each call computes its plain function. -/
import Derived.Test.YtokchpjijlebiaaProg
import Derived.Test.YtokchpjijlebiaaNQP0
import Derived.Test.YtokchpjijlebiaaNQWA
import Derived.Test.YtokchpjijlebiaaNQWB
import Derived.Test.YtokchpjijlebiaaNQWB1
import Derived.Test.YtokchpjijlebiaaNQWC1
import Derived.Test.YtokchpjijlebiaaNQWK1
import Derived.Test.YtokchpjijlebiaaNQWM1
import Derived.Test.YtokchpjijlebiaaNQWQ
import Derived.Test.YtokchpjijlebiaaNQWZ
set_option linter.all false
namespace Go.Proofs.Ytokchpjijlebiaa
open Go Go.RowKit
open Rep (rep)
open KRep (kv)
open VRep (rv)
abbrev B8 (z aa ab:Option Addr):List SC:=[.slice z 2 2,.slice aa 2 2,.slice ab 3 3]
abbrev K9 (a f g:Nat):AG:=[(a,0),(f,g+(0:Int).toNat*1)]
abbrev Ly:List SC:=[.slice none 0 0,.slice none 0 0,.slice none 0 0]
abbrev KA (a f g l m:Nat):AG:=[(a,0),(f,g+(0:Int).toNat*1),(l,m+(1:Int).toNat*1)]
abbrev F2 (a9:Option Addr) (x111:A0) (bb:Nat) (ba:Option Addr) (bc:Nat):List SC:=[.slice a9 x111.holds.length bb,.slice ba x111.turns.length bc,.slice none 0 0]
abbrev FF (ap:Option Addr) (ay:List Int) (aq:Nat) (ar:Option Addr) (x109:A0) (av:Nat) (au:Option Addr) (aw:Nat):List SC:=[.slice ap ay.length aq,.slice ar x109.turns.length av,.slice au x109.spares.length aw]
abbrev Lz (al:Option Addr) (x110:A0) (an:Nat) (ah:Option Addr) (cf:List Int) (ai:Nat) (am:Option Addr) (ao:Nat):List SC:=[.slice al x110.holds.length an,.slice ah cf.length ai,.slice am x110.spares.length ao]
abbrev GI (al:Option Addr) (x110:A0) (an:Nat) (ah:Option Addr) (a2:List Int) (ai:Nat) (am:Option Addr) (ao:Nat):List SC:=[.slice al x110.holds.length an,.slice ah a2.length ai,.slice am x110.spares.length ao]
abbrev IM (ap:Option Addr) (x109:A0) (aq:Nat) (ar:Option Addr) (av:Nat) (au:Option Addr) (aw:Nat):List SC:=[.slice ap x109.holds.length aq,.slice ar x109.turns.length av,.slice au x109.spares.length aw]
abbrev Hr (al:Option Addr) (x110:A0) (an:Nat) (ah:Option Addr) (ai:Nat) (am:Option Addr) (ao:Nat):List SC:=[.slice al x110.holds.length an,.slice ah x110.turns.length ai,.slice am x110.spares.length ao]
abbrev Ie (a9:Option Addr) (x111:A0) (bb:Nat) (ba:Option Addr) (bc:Nat) (gw:Option Addr) (gx:Nat):List SC:=[.slice a9 x111.holds.length bb,.slice ba x111.turns.length bc,.slice gw x111.spares.length gx]
abbrev Hs (c7:Option Addr) (x161:AB×Int) (dd:Nat) (c8:Option Addr) (de:Nat) (c9:Option Addr) (df:Nat):List SC:=[.slice c7 x161.1.tm.length dd,.slice c8 x161.1.turns.length de,.slice c9 x161.1.legs.length df]
abbrev Ig (a f g l m p q:Nat):AG:=[(a,0),(f,g+(0:Int).toNat*1),(l,m+(1:Int).toNat*1),(p,q+(2:Int).toNat*1)]
abbrev Ht (da:Option Addr) (x168:A0×Int) (dg:Nat) (db:Option Addr) (dh:Nat) (dc:Option Addr) (di:Nat):List SC:=[.slice da x168.1.holds.length dg,.slice db x168.1.turns.length dh,.slice dc x168.1.spares.length di]
abbrev Ih:List SC:=[.slice none 0 0,.int .i64 0,.int .i64 0,.slice none 0 0,.slice none 0 0,.int .i64 0,.int .i64 0,.int .i64 0,.int .i64 0]
abbrev BP (a f g l m p q s u:Nat):AG:=[(a,0),(f,g+(0:Int).toNat*1),(l,m+(1:Int).toNat*1),(p,q+(2:Int).toNat*1),(s,u+(3:Int).toNat*1)]
abbrev KB (h1:Option Addr) (x31:Ag) (ij:Nat) (h2:Option Addr) (ik:Nat) (h3:Option Addr) (il:Nat):List SC:=[.slice h1 x31.legs.length ij,.int .i64 x31.turn.lo,.int .i64 x31.turn.hi,.slice h2 x31.buses.length ik,.slice h3 x31.spares.length il,.int .i64 x31.unit,.int .i64 x31.gap,.int .i64 x31.fr,.int .i64 x31.to_]
abbrev KC (hu:Option Addr) (x38:Ag) (ib:Nat) (hv:Option Addr) (ic:Nat) (hw:Option Addr) (ie:Nat):List SC:=[.slice hu x38.legs.length ib,.int .i64 x38.turn.lo,.int .i64 x38.turn.hi,.slice hv x38.buses.length ic,.slice hw x38.spares.length ie,.int .i64 x38.unit,.int .i64 x38.gap,.int .i64 x38.fr,.int .i64 x38.to_]
abbrev KD (hx:Option Addr) (x45:Ag) (ig:Nat) (hy:Option Addr) (ih:Nat) (hz:Option Addr) (ii:Nat):List SC:=[.slice hx x45.legs.length ig,.int .i64 x45.turn.lo,.int .i64 x45.turn.hi,.slice hy x45.buses.length ih,.slice hz x45.spares.length ii,.int .i64 x45.unit,.int .i64 x45.gap,.int .i64 x45.fr,.int .i64 x45.to_]
abbrev Mg (i6:Option Addr) (x120:Ag) (ji:Nat) (i7:Option Addr) (jj:Nat) (i8:Option Addr) (jk:Nat):List SC:=[.slice i6 x120.legs.length ji,.int .i64 x120.turn.lo,.int .i64 x120.turn.hi,.slice i7 x120.buses.length jj,.slice i8 x120.spares.length jk,.int .i64 x120.unit,.int .i64 x120.gap,.int .i64 x120.fr,.int .i64 x120.to_]
abbrev Mh (i9:Option Addr) (x126:Ag) (jl:Nat) (ja:Option Addr) (jm:Nat) (jb:Option Addr) (jn:Nat):List SC:=[.slice i9 x126.legs.length jl,.int .i64 x126.turn.lo,.int .i64 x126.turn.hi,.slice ja x126.buses.length jm,.slice jb x126.spares.length jn,.int .i64 x126.unit,.int .i64 x126.gap,.int .i64 x126.fr,.int .i64 x126.to_]
abbrev Mi (jc:Option Addr) (x132:Ag) (jo:Nat) (jd:Option Addr) (jp:Nat) (je:Option Addr) (jq:Nat):List SC:=[.slice jc x132.legs.length jo,.int .i64 x132.turn.lo,.int .i64 x132.turn.hi,.slice jd x132.buses.length jp,.slice je x132.spares.length jq,.int .i64 x132.unit,.int .i64 x132.gap,.int .i64 x132.fr,.int .i64 x132.to_]
abbrev Mj (jf:Option Addr) (x141:Ag) (jr:Nat) (jg:Option Addr) (js:Nat) (jh:Option Addr) (jt:Nat):List SC:=[.slice jf x141.legs.length jr,.int .i64 x141.turn.lo,.int .i64 x141.turn.hi,.slice jg x141.buses.length js,.slice jh x141.spares.length jt,.int .i64 x141.unit,.int .i64 x141.gap,.int .i64 x141.fr,.int .i64 x141.to_]
abbrev KE (h4:Option Addr) (x152:Ag) (im:Nat) (h5:Option Addr) (io:Nat) (h6:Option Addr) (ip:Nat):List SC:=[.slice h4 x152.legs.length im,.int .i64 x152.turn.lo,.int .i64 x152.turn.hi,.slice h5 x152.buses.length io,.slice h6 x152.spares.length ip,.int .i64 x152.unit,.int .i64 x152.gap,.int .i64 x152.fr,.int .i64 x152.to_]
abbrev J1 (cv:Option Addr) (x164:Ag) (cz:Nat) (cw:Option Addr) (c0:Nat) (cx:Option Addr) (c1:Nat):List SC:=[.slice cv x164.legs.length cz,.int .i64 x164.turn.lo,.int .i64 x164.turn.hi,.slice cw x164.buses.length c0,.slice cx x164.spares.length c1,.int .i64 x164.unit,.int .i64 34,.int .i64 x164.fr,.int .i64 x164.to_]
abbrev KF (h7:Option Addr) (x159:Ag) (iq:Nat) (h8:Option Addr) (ir:Nat) (h9:Option Addr) (ia:Nat):List SC:=[.slice h7 x159.legs.length iq,.int .i64 x159.turn.lo,.int .i64 x159.turn.hi,.slice h8 x159.buses.length ir,.slice h9 x159.spares.length ia,.int .i64 x159.unit,.int .i64 x159.gap,.int .i64 x159.fr,.int .i64 x159.to_]
abbrev KG (ca:Option Addr) (x178:List Rg) (b6:Nat) (x172:Ag) (cn:Option Addr) (cq:Nat) (co:Option Addr) (cr:Nat):List SC:=[.slice ca x178.length b6,.int .i64 x172.turn.lo,.int .i64 x172.turn.hi,.slice cn x172.buses.length cq,.slice co x172.spares.length cr,.int .i64 x172.unit,.int .i64 x172.gap,.int .i64 x172.fr,.int .i64 x172.to_]
abbrev Mk (bl:Option Addr) (x173:Ag) (bn:Nat) (bj:Option Addr) (bz:List Ct) (bk:Nat) (bm:Option Addr) (bo:Nat):List SC:=[.slice bl x173.legs.length bn,.int .i64 x173.turn.lo,.int .i64 x173.turn.hi,.slice bj bz.length bk,.slice bm x173.spares.length bo,.int .i64 x173.unit,.int .i64 x173.gap,.int .i64 x173.fr,.int .i64 x173.to_]
abbrev KH (cj:Option Addr) (x171:Ag) (cl:Nat) (bv:Option Addr) (x174:List Ct) (ck:Option Addr) (cm:Nat):List SC:=[.slice cj x171.legs.length cl,.int .i64 x171.turn.lo,.int .i64 x171.turn.hi,.slice bv x174.length x174.length,.slice ck x171.spares.length cm,.int .i64 x171.unit,.int .i64 x171.gap,.int .i64 x171.fr,.int .i64 x171.to_]
abbrev KI (cv:Option Addr) (x164:Ag) (cz:Nat) (cw:Option Addr) (c0:Nat) (cx:Option Addr) (c1:Nat):List SC:=[.slice cv x164.legs.length cz,.int .i64 x164.turn.lo,.int .i64 x164.turn.hi,.slice cw x164.buses.length c0,.slice cx x164.spares.length c1,.int .i64 x164.unit,.int .i64 x164.gap,.int .i64 x164.fr,.int .i64 x164.to_]
abbrev Gz (cj:Option Addr) (x171:Ag) (cl:Nat) (gg:Option Addr) (gh:Nat) (ck:Option Addr) (cm:Nat):List SC:=[.slice cj x171.legs.length cl,.int .i64 x171.turn.lo,.int .i64 x171.turn.hi,.slice gg x171.buses.length gh,.slice ck x171.spares.length cm,.int .i64 x171.unit,.int .i64 x171.gap,.int .i64 x171.fr,.int .i64 x171.to_]
abbrev Hu (ca:Option Addr) (x172:Ag) (b6:Nat) (cn:Option Addr) (cq:Nat) (co:Option Addr) (cr:Nat):List SC:=[.slice ca x172.legs.length b6,.int .i64 x172.turn.lo,.int .i64 x172.turn.hi,.slice cn x172.buses.length cq,.slice co x172.spares.length cr,.int .i64 x172.unit,.int .i64 x172.gap,.int .i64 x172.fr,.int .i64 x172.to_]
abbrev Ii (bl:Option Addr) (x173:Ag) (bn:Nat) (bj:Option Addr) (bk:Nat) (bm:Option Addr) (bo:Nat):List SC:=[.slice bl x173.legs.length bn,.int .i64 x173.turn.lo,.int .i64 x173.turn.hi,.slice bj x173.buses.length bk,.slice bm x173.spares.length bo,.int .i64 x173.unit,.int .i64 x173.gap,.int .i64 x173.fr,.int .i64 x173.to_]
abbrev Dd (a f g l m p q s u ac ad ae af ag:Nat):AG:=[(a,0),(f,g+(0:Int).toNat*1),(l,m+(1:Int).toNat*1),(p,q+(2:Int).toNat*1),(s,u+(3:Int).toNat*1),(ac,0),(ad,0),(ae,0),(af,0+(0:Int).toNat*1),(ag,0+(0:Int).toNat*1)]
abbrev Hv (a f g l m p q s u ac ad ae af ag ax:Nat):AG:=[(a,0),(f,g+(0:Int).toNat*1),(l,m+(1:Int).toNat*1),(p,q+(2:Int).toNat*1),(s,u+(3:Int).toNat*1),(ac,0),(ad,0),(ae,0),(af,0+(0:Int).toNat*1),(ag,0+(0:Int).toNat*1),(ax,0+(0:Int).toNat*1)]
abbrev Ek (a f g l m p q s u ac ad ae af ag ax az a0:Nat):AG:=[(a,0),(f,g+(0:Int).toNat*1),(l,m+(1:Int).toNat*1),(p,q+(2:Int).toNat*1),(s,u+(3:Int).toNat*1),(ac,0),(ad,0),(ae,0),(af,0+(0:Int).toNat*1),(ag,0+(0:Int).toNat*1),(ax,0+(0:Int).toNat*1),(az,0+(2:Int).toNat*1),(a0,0+(1:Int).toNat*1)]
abbrev Ml (a f g l m p q s u ac ad ae af ag ax az a0 a3 a4:Nat):AG:=[(a,0),(f,g+(0:Int).toNat*1),(l,m+(1:Int).toNat*1),(p,q+(2:Int).toNat*1),(s,u+(3:Int).toNat*1),(ac,0),(ad,0),(ae,0),(af,0+(0:Int).toNat*1),(ag,0+(0:Int).toNat*1),(ax,0+(0:Int).toNat*1),(az,0+(2:Int).toNat*1),(a0,0+(1:Int).toNat*1),(a3,0),(a4,0)]
abbrev KJ (a f g l m p q s u ac ad ae af ag ax az a0 a3 a4 a5:Nat):AG:=[(a,0),(f,g+(0:Int).toNat*1),(l,m+(1:Int).toNat*1),(p,q+(2:Int).toNat*1),(s,u+(3:Int).toNat*1),(ac,0),(ad,0),(ae,0),(af,0+(0:Int).toNat*1),(ag,0+(0:Int).toNat*1),(ax,0+(0:Int).toNat*1),(az,0+(2:Int).toNat*1),(a0,0+(1:Int).toNat*1),(a3,0),(a4,0),(a5,0)]
abbrev KM (a f g l m p q s u ac ad ae af ag ax az a0 a3 a4 a5 be bf bg:Nat):AG:=[(a,0),(f,g+(0:Int).toNat*1),(l,m+(1:Int).toNat*1),(p,q+(2:Int).toNat*1),(s,u+(3:Int).toNat*1),(ac,0),(ad,0),(ae,0),(af,0+(0:Int).toNat*1),(ag,0+(0:Int).toNat*1),(ax,0+(0:Int).toNat*1),(az,0+(2:Int).toNat*1),(a0,0+(1:Int).toNat*1),(a3,0),(a4,0),(a5,0),(be,0),(bf,0),(bg,0)]
abbrev AJ (a f g l m p q s u ac ad ae af ag ax az a0 a3 a4 a5 be bf bg bs:Nat):AG:=[(a,0),(f,g+(0:Int).toNat*1),(l,m+(1:Int).toNat*1),(p,q+(2:Int).toNat*1),(s,u+(3:Int).toNat*1),(ac,0),(ad,0),(ae,0),(af,0+(0:Int).toNat*1),(ag,0+(0:Int).toNat*1),(ax,0+(0:Int).toNat*1),(az,0+(2:Int).toNat*1),(a0,0+(1:Int).toNat*1),(a3,0),(a4,0),(a5,0),(be,0),(bf,0),(bg,0),(bs,0+(0:Int).toNat*3)]
abbrev FO (z aa ab cg:Option Addr) (x59:List Int) (ch:Nat) (cp:Option Addr) (x67:List Int) (ct:Nat) (cy:Option Addr) (x75:List Int) (c2:Nat) (c4:Option Addr) (x83:List Int) (c5:Nat):List Cu:=[⟨B8 z aa ab,some 76⟩,⟨[.slice cg x59.length ch],none⟩,⟨[.slice cp x67.length ct],none⟩,⟨[.slice cy x75.length c2],none⟩,⟨[.slice c4 x83.length c5],none⟩]
abbrev J2 (z aa ab ap:Option Addr) (ay:List Int) (aq:Nat) (ar:Option Addr) (x109:A0) (av:Nat) (au:Option Addr) (aw:Nat) (al:Option Addr) (x110:A0) (an:Nat) (ah:Option Addr) (a2:List Int) (ai:Nat) (am:Option Addr) (ao:Nat) (a9:Option Addr) (x111:A0) (bb:Nat) (ba:Option Addr) (bc:Nat):List Cu:=[⟨B8 z aa ab,some 76⟩,⟨[],none⟩,⟨[],none⟩,⟨[],none⟩,⟨[],none⟩,⟨FF ap ay aq ar x109 av au aw,some 34⟩,⟨GI al x110 an ah a2 ai am ao,some 34⟩,⟨F2 a9 x111 bb ba bc,some 34⟩,⟨[],none⟩,⟨[],none⟩,⟨[],none⟩,⟨[],none⟩,⟨[],none⟩]
abbrev G0 (z aa ab cg:Option Addr) (x59:List Int) (ch:Nat) (cp:Option Addr) (x67:List Int) (ct:Nat) (cy:Option Addr) (x75:List Int) (c2:Nat) (c4:Option Addr) (x83:List Int) (c5:Nat) (ap:Option Addr) (ay:List Int) (aq:Nat) (ar:Option Addr) (x109:A0) (av:Nat) (au:Option Addr) (aw:Nat) (al:Option Addr) (x110:A0) (an:Nat) (ah:Option Addr) (cf:List Int) (ai:Nat) (am:Option Addr) (ao:Nat) (a9:Option Addr) (x111:A0) (bb:Nat) (ba:Option Addr) (bc:Nat):List Cu:=[⟨B8 z aa ab,some 76⟩,⟨[.slice cg x59.length ch],none⟩,⟨[.slice cp x67.length ct],none⟩,⟨[.slice cy x75.length c2],none⟩,⟨[.slice c4 x83.length c5],none⟩,⟨FF ap ay aq ar x109 av au aw,some 34⟩,⟨Lz al x110 an ah cf ai am ao,some 34⟩,⟨F2 a9 x111 bb ba bc,some 34⟩,⟨[],none⟩,⟨[],none⟩]
abbrev G1 (z aa aj ak y ab:Option Addr):List Cf:=[⟨z,2,2,3,1,([.int .i64 0,.int .i64 15]:List Value),2⟩,⟨aa,2,2,3,1,([.int .i64 0,.int .i64 0]:List Value),2⟩,⟨aj,3,3,3,1,([.int .i64 10,.int .i64 10,.int .i64 10]:List Value),3⟩,⟨ak,3,3,3,1,([.int .i64 10,.int .i64 10,.int .i64 10]:List Value),3⟩,⟨y,3,3,3,1,([.int .i64 10,.int .i64 10,.int .i64 10]:List Value),3⟩,⟨ab,3,3,31,1,([.slice aj 3 3,.slice ak 3 3,.slice y 3 3]:List Value),3⟩]
abbrev E5 (z aa ab ap:Option Addr) (ay:List Int) (aq:Nat) (ar:Option Addr) (x109:A0) (av:Nat) (au:Option Addr) (aw:Nat) (al:Option Addr) (x110:A0) (an:Nat) (ah:Option Addr) (a2:List Int) (ai:Nat) (am:Option Addr) (ao:Nat) (a9:Option Addr) (x111:A0) (bb:Nat) (ba:Option Addr) (bc:Nat) (c7:Option Addr) (x161:AB×Int) (dd:Nat) (c8:Option Addr) (de:Nat) (c9:Option Addr) (df:Nat) (cv:Option Addr) (x164:Ag) (cz:Nat) (cw:Option Addr) (c0:Nat) (cx:Option Addr) (c1:Nat) (da:Option Addr) (x168:A0×Int) (dg:Nat) (db:Option Addr) (dh:Nat) (dc:Option Addr) (di:Nat) (cj:Option Addr) (x171:Ag) (cl:Nat) (bv:Option Addr) (x174:List Ct) (ck:Option Addr) (cm:Nat) (ca:Option Addr) (x178:List Rg) (b6:Nat) (x172:Ag) (cn:Option Addr) (cq:Nat) (co:Option Addr) (cr:Nat) (bl:Option Addr) (x173:Ag) (bn:Nat) (bj:Option Addr) (bz:List Ct) (bk:Nat) (bm:Option Addr) (bo:Nat):List Cu:=[⟨B8 z aa ab,some 76⟩,⟨[],none⟩,⟨[],none⟩,⟨[],none⟩,⟨[],none⟩,⟨FF ap ay aq ar x109 av au aw,some 34⟩,⟨GI al x110 an ah a2 ai am ao,some 34⟩,⟨F2 a9 x111 bb ba bc,some 34⟩,⟨[],none⟩,⟨[],none⟩,⟨[],none⟩,⟨[],none⟩,⟨[],none⟩,⟨Hs c7 x161 dd c8 de c9 df,some 76⟩,⟨J1 cv x164 cz cw c0 cx c1,some 43⟩,⟨Ht da x168 dg db dh dc di,some 34⟩,⟨KH cj x171 cl bv x174 ck cm,some 43⟩,⟨KG ca x178 b6 x172 cn cq co cr,some 43⟩,⟨Mk bl x173 bn bj bz bk bm bo,some 43⟩,⟨[],none⟩]
abbrev Mm (z aa aj ak y ab ap:Option Addr) (ay:List Int) (aq:Nat) (a1:List Value) (ar:Option Addr) (x109:A0) (av:Nat) (bu:List Value) (au:Option Addr) (aw:Nat) (bw:List Value) (al:Option Addr) (x110:A0) (an:Nat) (a6:List Value) (ah:Option Addr) (a2:List Int) (ai:Nat) (d:List Value) (am:Option Addr) (ao:Nat) (bd:List Value) (bl:Option Addr) (x173:Ag) (bn:Nat) (dm:List Value) (bj:Option Addr) (bz:List Ct) (bk:Nat) (ce:List Value) (bm:Option Addr) (bo:Nat) (dt:List Value) (bv:Option Addr) (x174:List Ct):List Cf:=[⟨z,2,2,3,1,([.int .i64 0,.int .i64 15]:List Value),2⟩,⟨aa,2,2,3,1,([.int .i64 0,.int .i64 0]:List Value),2⟩,⟨aj,3,3,3,1,([.int .i64 10,.int .i64 10,.int .i64 10]:List Value),3⟩,⟨ak,3,3,3,1,([.int .i64 10,.int .i64 10,.int .i64 10]:List Value),3⟩,⟨y,3,3,3,1,([.int .i64 10,.int .i64 16,.int .i64 10]:List Value),3⟩,⟨ab,3,3,31,1,([.slice aj 3 3,.slice ak 3 3,.slice y 3 3]:List Value),3⟩,⟨ap,ay.length,aq,3,1,a1.take (0+(0:Int).toNat*1+0)++([.int .i64 3]:List Value)++a1.drop (0+(0:Int).toNat*1+0+1),0⟩,⟨ar,x109.turns.length,av,3,1,bu,0⟩,⟨au,x109.spares.length,aw,4,1,bw,0⟩,⟨al,x110.holds.length,an,3,1,a6,(a6:List Value).length⟩,⟨ah,a2.length,ai,3,1,(d.take (0+(0:Int).toNat*1+0)++([.int .i64 1]:List Value)++d.drop (0+(0:Int).toNat*1+0+1)).take (0+(0:Int).toNat*1+0)++([.int .i64 0]:List Value)++(d.take (0+(0:Int).toNat*1+0)++([.int .i64 1]:List Value)++d.drop (0+(0:Int).toNat*1+0+1)).drop (0+(0:Int).toNat*1+0+1),(((d.take (0+(0:Int).toNat*1+0)++([.int .i64 1]:List Value)++d.drop (0+(0:Int).toNat*1+0+1)).take (0+(0:Int).toNat*1+0)++([.int .i64 0]:List Value)++(d.take (0+(0:Int).toNat*1+0)++([.int .i64 1]:List Value)++d.drop (0+(0:Int).toNat*1+0+1)).drop (0+(0:Int).toNat*1+0+1)):List Value).length⟩,⟨am,x110.spares.length,ao,4,1,bd,(bd:List Value).length⟩,⟨bl,x173.legs.length,bn,39,2,dm,0⟩,⟨bj,bz.length,bk,96,3,ce.take (0+(0:Int).toNat*3+0)++([.int .i64 4]:List Value)++ce.drop (0+(0:Int).toNat*3+0+1),0⟩,⟨bm,x173.spares.length,bo,110,2,dt,0⟩,⟨bv,x174.length,x174.length,96,3,List.flatten (List.replicate x174.length ([.int .i64 0,.int .i64 0,.int .i64 0]:List Value)),0⟩]
abbrev OM (z aa aj ak y ab ap:Option Addr) (ay:List Int) (aq:Nat) (a1:List Value) (ar:Option Addr) (x109:A0) (av:Nat) (bu:List Value) (au:Option Addr) (aw:Nat) (bw:List Value) (al:Option Addr) (x110:A0) (an:Nat) (a6:List Value) (ah:Option Addr) (a2:List Int) (ai:Nat) (d:List Value) (am:Option Addr) (ao:Nat) (bd:List Value) (bl:Option Addr) (x173:Ag) (bn:Nat) (dm:List Value) (bj:Option Addr) (bz:List Ct) (bk:Nat) (ce:List Value) (bm:Option Addr) (bo:Nat) (dt:List Value) (bv:Option Addr) (x174:List Ct):List Cf:=[⟨z,2,2,3,1,([.int .i64 0,.int .i64 15]:List Value),2⟩,⟨aa,2,2,3,1,([.int .i64 0,.int .i64 0]:List Value),2⟩,⟨aj,3,3,3,1,([.int .i64 10,.int .i64 10,.int .i64 10]:List Value),3⟩,⟨ak,3,3,3,1,([.int .i64 10,.int .i64 10,.int .i64 10]:List Value),3⟩,⟨y,3,3,3,1,([.int .i64 10,.int .i64 16,.int .i64 10]:List Value),3⟩,⟨ab,3,3,31,1,([.slice aj 3 3,.slice ak 3 3,.slice y 3 3]:List Value),3⟩,⟨ap,ay.length,aq,3,1,a1.take (0+(0:Int).toNat*1+0)++([.int .i64 3]:List Value)++a1.drop (0+(0:Int).toNat*1+0+1),0⟩,⟨ar,x109.turns.length,av,3,1,bu,0⟩,⟨au,x109.spares.length,aw,4,1,bw,0⟩,⟨al,x110.holds.length,an,3,1,a6,(a6:List Value).length⟩,⟨ah,a2.length,ai,3,1,(d.take (0+(0:Int).toNat*1+0)++([.int .i64 1]:List Value)++d.drop (0+(0:Int).toNat*1+0+1)).take (0+(0:Int).toNat*1+0)++([.int .i64 0]:List Value)++(d.take (0+(0:Int).toNat*1+0)++([.int .i64 1]:List Value)++d.drop (0+(0:Int).toNat*1+0+1)).drop (0+(0:Int).toNat*1+0+1),(((d.take (0+(0:Int).toNat*1+0)++([.int .i64 1]:List Value)++d.drop (0+(0:Int).toNat*1+0+1)).take (0+(0:Int).toNat*1+0)++([.int .i64 0]:List Value)++(d.take (0+(0:Int).toNat*1+0)++([.int .i64 1]:List Value)++d.drop (0+(0:Int).toNat*1+0+1)).drop (0+(0:Int).toNat*1+0+1)):List Value).length⟩,⟨am,x110.spares.length,ao,4,1,bd,(bd:List Value).length⟩,⟨bl,x173.legs.length,bn,39,2,dm,0⟩,⟨bj,bz.length,bk,96,3,ce.take (0+(0:Int).toNat*3+0)++([.int .i64 4]:List Value)++ce.drop (0+(0:Int).toNat*3+0+1),0⟩,⟨bm,x173.spares.length,bo,110,2,dt,0⟩,⟨bv,x174.length,x174.length,96,3,List.flatten (List.replicate x174.length ([.int .i64 0,.int .i64 0,.int .i64 0]:List Value)),((List.flatten (List.replicate x174.length ([.int .i64 0,.int .i64 0,.int .i64 0]:List Value))):List Value).length⟩]
abbrev N8 (z aa aj ak y ab ap:Option Addr) (ay:List Int) (aq:Nat) (a1:List Value) (ar:Option Addr) (x109:A0) (av:Nat) (bu:List Value) (au:Option Addr) (aw:Nat) (bw:List Value) (al:Option Addr) (x110:A0) (an:Nat) (a6:List Value) (ah:Option Addr) (a2:List Int) (ai:Nat) (d:List Value) (am:Option Addr) (ao:Nat) (bd:List Value) (bl:Option Addr) (x173:Ag) (bn:Nat) (dm:List Value) (bj:Option Addr) (bz:List Ct) (bk:Nat) (ce:List Value) (bm:Option Addr) (bo:Nat) (dt:List Value) (bv:Option Addr) (x174:List Ct):List Cf:=[⟨z,2,2,3,1,([.int .i64 0,.int .i64 15]:List Value),2⟩,⟨aa,2,2,3,1,([.int .i64 0,.int .i64 0]:List Value),2⟩,⟨aj,3,3,3,1,([.int .i64 10,.int .i64 10,.int .i64 10]:List Value),3⟩,⟨ak,3,3,3,1,([.int .i64 10,.int .i64 10,.int .i64 10]:List Value),3⟩,⟨y,3,3,3,1,([.int .i64 10,.int .i64 16,.int .i64 10]:List Value),3⟩,⟨ab,3,3,31,1,([.slice aj 3 3,.slice ak 3 3,.slice y 3 3]:List Value),3⟩,⟨ap,ay.length,aq,3,1,a1.take (0+(0:Int).toNat*1+0)++([.int .i64 3]:List Value)++a1.drop (0+(0:Int).toNat*1+0+1),0⟩,⟨ar,x109.turns.length,av,3,1,bu,0⟩,⟨au,x109.spares.length,aw,4,1,bw,0⟩,⟨al,x110.holds.length,an,3,1,a6,(a6:List Value).length⟩,⟨ah,a2.length,ai,3,1,(d.take (0+(0:Int).toNat*1+0)++([.int .i64 1]:List Value)++d.drop (0+(0:Int).toNat*1+0+1)).take (0+(0:Int).toNat*1+0)++([.int .i64 0]:List Value)++(d.take (0+(0:Int).toNat*1+0)++([.int .i64 1]:List Value)++d.drop (0+(0:Int).toNat*1+0+1)).drop (0+(0:Int).toNat*1+0+1),(((d.take (0+(0:Int).toNat*1+0)++([.int .i64 1]:List Value)++d.drop (0+(0:Int).toNat*1+0+1)).take (0+(0:Int).toNat*1+0)++([.int .i64 0]:List Value)++(d.take (0+(0:Int).toNat*1+0)++([.int .i64 1]:List Value)++d.drop (0+(0:Int).toNat*1+0+1)).drop (0+(0:Int).toNat*1+0+1)):List Value).length⟩,⟨am,x110.spares.length,ao,4,1,bd,(bd:List Value).length⟩,⟨bl,x173.legs.length,bn,39,2,dm,(dm:List Value).length⟩,⟨bj,bz.length,bk,96,3,ce.take (0+(0:Int).toNat*3+0)++([.int .i64 4]:List Value)++ce.drop (0+(0:Int).toNat*3+0+1),((ce.take (0+(0:Int).toNat*3+0)++([.int .i64 4]:List Value)++ce.drop (0+(0:Int).toNat*3+0+1)):List Value).length⟩,⟨bm,x173.spares.length,bo,110,2,dt,(dt:List Value).length⟩,⟨bv,x174.length,x174.length,96,3,List.flatten (List.replicate x174.length ([.int .i64 0,.int .i64 0,.int .i64 0]:List Value)),((List.flatten (List.replicate x174.length ([.int .i64 0,.int .i64 0,.int .i64 0]:List Value))):List Value).length⟩]
abbrev BC (x47:(List Int)×Int) (bh:Option Addr) (bi:Nat) (x41:(List Int)×Int) (bp:Option Addr) (bq:Nat) (br:Option Addr) (x34:(List (List Int))×Int) (bt:Nat):TM:=[tI 7 x47.2,tS 6 bh x47.1.length bi,tI 5 x41.2,tS 4 bp x41.1.length bq,tS 2 br x34.1.length bt,tP 1 0 0]
abbrev Bl (x155 x143:(List Int)×Int) (a7:Option Addr) (a8:Nat) (x134 x128 x122:(List Int)×Int):TM:=[tI 14 x155.2,tI 12 x143.2,tS 11 a7 x143.1.length a8,tI 7 x134.2,tI 5 x128.2,tI 3 x122.2]
set_option maxRecDepth 100000 in
set_option maxHeartbeats 4000000 in
theorem HH (n:Nat) {h:Ad} {w:World} (hh:Dv h w)  {Q:Bool→Prop} (H:DN n  Q) :
  Calls Try.prog 11 #[] w (D6 (fun h v=>∃ r,Q r∧v=.bool r) h w):=by
 refine enter 238 [] Try.func11 rfl rfl rfl rfl fun t hk=>?_
 have hm:=Ah.begin h w hh
 unfold DN at H
 refine QT (Ab (Rk 0 1 [] hk hm fun aki zx=>?_))
 refine wf (QT (Ab (wl fun K hK=>?_)))
 refine wS 3 1 [.int .i64 0,.int .i64 15] zx hm fun z ahf aop (abj:Kn 238 [] [tS 23 z 2 2] ahf) adv=>?_
 have ec:Af h ([0,15]:List Int) ([.int .i64 0,.int .i64 15]:List Value):=⟨_,_,rfl,(Ac:rep h (0:Int) _),⟨_,_,rfl,(Ac:rep h (15:Int) _),rfl⟩⟩
 refine hK _ _ ?_
 refine wl fun K hK=>?_
 refine wS 3 1 [.int .i64 0,.int .i64 0] abj adv fun aa af4 an3 (x4:Kn 238 [] [tS 24 aa 2 2,tS 23 z 2 2] af4) ac8=>?_
 have d8:Af h ([0,0]:List Int) ([.int .i64 0,.int .i64 0]:List Value):=⟨_,_,rfl,(Ac:rep h (0:Int) _),⟨_,_,rfl,(Ac:rep h (0:Int) _),rfl⟩⟩
 refine hK _ _ ?_
 refine wl fun K hK=>?_
 refine wS 3 1 [.int .i64 10,.int .i64 10,.int .i64 10] x4 ac8 fun aj agy aok (zv:Kn 238 [] [tS 25 aj 3 3,tS 24 aa 2 2,tS 23 z 2 2] agy) adi=>?_
 have d9:Af h ([10,10,10]:List Int) ([.int .i64 10,.int .i64 10,.int .i64 10]:List Value):=⟨_,_,rfl,(Ac:rep h (10:Int) _),⟨_,_,rfl,(Ac:rep h (10:Int) _),⟨_,_,rfl,(Ac:rep h (10:Int) _),rfl⟩⟩⟩
 refine hK _ _ ?_
 refine wl fun K hK=>?_
 refine wS 3 1 [.int .i64 10,.int .i64 10,.int .i64 10] zv adi fun ak ag3 aoo (z5:Kn 238 [] [tS 26 ak 3 3,tS 25 aj 3 3,tS 24 aa 2 2,tS 23 z 2 2] ag3) adj=>?_
 have ea:Af h ([10,10,10]:List Int) ([.int .i64 10,.int .i64 10,.int .i64 10]:List Value):=⟨_,_,rfl,(Ac:rep h (10:Int) _),⟨_,_,rfl,(Ac:rep h (10:Int) _),⟨_,_,rfl,(Ac:rep h (10:Int) _),rfl⟩⟩⟩
 refine hK _ _ ?_
 refine wl fun K hK=>?_
 refine wS 3 1 [.int .i64 10,.int .i64 10,.int .i64 10] z5 adj fun y ag8 pz (aad:Kn 238 [] [tS 27 y 3 3,tS 26 ak 3 3,tS 25 aj 3 3,tS 24 aa 2 2,tS 23 z 2 2] ag8) s8=>?_
 have eb:Af h ([10,10,10]:List Int) ([.int .i64 10,.int .i64 10,.int .i64 10]:List Value):=⟨_,_,rfl,(Ac:rep h (10:Int) _),⟨_,_,rfl,(Ac:rep h (10:Int) _),⟨_,_,rfl,(Ac:rep h (10:Int) _),rfl⟩⟩⟩
 refine hK _ _ ?_
 obtain⟨qn,k3,ae0,m3⟩:=s8.settle (i:=2) rfl
 replace d9:=d9.mono k3
 replace m3:Ah ⟨w,h,Az⟩ qn [] [] [⟨z,2,2,3,1,([.int .i64 0,.int .i64 15]:List Value),0⟩,⟨aa,2,2,3,1,([.int .i64 0,.int .i64 0]:List Value),0⟩,⟨aj,3,3,3,1,([.int .i64 10,.int .i64 10,.int .i64 10]:List Value),3⟩,⟨ak,3,3,3,1,([.int .i64 10,.int .i64 10,.int .i64 10]:List Value),0⟩,⟨y,3,3,3,1,([.int .i64 10,.int .i64 10,.int .i64 10]:List Value),0⟩] pz:=m3
 have es:Ar qn aj 3 ([10,10,10]:List Int):=⟨_,d9,ae0,s8.rowCap (i:=2) rfl⟩
 obtain⟨qp,j9,ae2,m5⟩:=m3.settle (i:=3) rfl
 replace ea:=ea.mono (QU k3 j9)
 replace m5:Ah ⟨w,h,Az⟩ qp [] [] [⟨z,2,2,3,1,([.int .i64 0,.int .i64 15]:List Value),0⟩,⟨aa,2,2,3,1,([.int .i64 0,.int .i64 0]:List Value),0⟩,⟨aj,3,3,3,1,([.int .i64 10,.int .i64 10,.int .i64 10]:List Value),3⟩,⟨ak,3,3,3,1,([.int .i64 10,.int .i64 10,.int .i64 10]:List Value),3⟩,⟨y,3,3,3,1,([.int .i64 10,.int .i64 10,.int .i64 10]:List Value),0⟩] pz:=m5
 have et:Ar qp ak 3 ([10,10,10]:List Int):=⟨_,ea,ae2,m3.rowCap (i:=3) rfl⟩
 obtain⟨jx,ix,ae4,oi⟩:=m5.settle (i:=4) rfl
 replace es:=es.mono (QU j9 ix)
 replace et:=et.mono ix
 replace eb:=eb.mono (QU (QU k3 j9) ix)
 replace oi:Ah ⟨w,h,Az⟩ jx [] [] [⟨z,2,2,3,1,([.int .i64 0,.int .i64 15]:List Value),0⟩,⟨aa,2,2,3,1,([.int .i64 0,.int .i64 0]:List Value),0⟩,⟨aj,3,3,3,1,([.int .i64 10,.int .i64 10,.int .i64 10]:List Value),3⟩,⟨ak,3,3,3,1,([.int .i64 10,.int .i64 10,.int .i64 10]:List Value),3⟩,⟨y,3,3,3,1,([.int .i64 10,.int .i64 10,.int .i64 10]:List Value),3⟩] pz:=oi
 have fe:Ar jx y 3 ([10,10,10]:List Int):=⟨_,eb,ae4,m5.rowCap (i:=4) rfl⟩
 refine wl fun K hK=>?_
 refine wS 31 1 [.slice aj 3 3,.slice ak 3 3,.slice y 3 3] aad oi fun ab ahm aoq (aa4:Kn 238 [] [tS 28 ab 3 3,tS 27 y 3 3,tS 26 ak 3 3,tS 25 aj 3 3,tS 24 aa 2 2,tS 23 z 2 2] ahm) tp=>?_
 have el:Af jx ([([10,10,10]:List Int),([10,10,10]:List Int),([10,10,10]:List Int)]:List (List Int)) ([.slice aj 3 3,.slice ak 3 3,.slice y 3 3]:List Value):=⟨_,_,rfl,((Ae es):rep jx (([10,10,10]:List Int):List Int) _),⟨_,_,rfl,((Ae et):rep jx (([10,10,10]:List Int):List Int) _),⟨_,_,rfl,((Ae fe):rep jx (([10,10,10]:List Int):List Int) _),rfl⟩⟩⟩
 refine hK _ _ ?_
 refine Rk 6 1 [tA 29 (B8 z aa ab)] aa4 tp fun al6 aa7=>?_
 refine wl fun K hK=>?_
 refine wa Ly aa7 tp fun a u4 aou (abe:Kn 238 [(a,0)] [tP 1 0 0,tA 29 (B8 z aa ab)] u4) adq=>hK _ _ ?_
 refine wl fun K hK=>?_
 refine Ea 0 0 (.agg (B8 z aa ab)) (B8 z aa ab) abe adq fun aoz abm k9=>hK _ _ ?_
 have abr:Kn 238 [(a,0)] [tP 1 0 0] u4:=abm.kp
 refine wf (QT (Ao (by kernel_rfl) ?_))
 replace k9:=k9.drew
 refine At [] [(a,0)] [⟨B8 z aa ab,some 76⟩] ?_
 refine Dr [2] [2] [tA 33 (B8 z aa ab),tP 1 0 0] abr k9 fun al9 abz=>?_
 obtain⟨x31,ex31,H⟩:=H
 refine Dl 0 fun K hK=>?_
 refine wc [] abz k9 (Bi n k9.has  ex31) fun anh ajf ao1 v9 hc oo=>?_
 obtain⟨_,rfl,⟨_,_,rfl,⟨h1,ij,rfl,pf⟩,⟨_,_,rfl,⟨_,_,rfl,rfl,rfl⟩,⟨_,_,rfl,⟨h2,ik,rfl,pg⟩,⟨_,_,rfl,⟨h3,il,rfl,ph⟩,⟨_,_,rfl,rfl,⟨_,_,rfl,rfl,⟨_,_,rfl,rfl,rfl⟩⟩⟩⟩⟩⟩⟩⟩:=v9
 refine⟨.one (.agg (KB h1 x31 ij h2 ik h3 il)),rfl,fun ah1 (aci:Kn 238 [(a,0)] [tA 31 (KB h1 x31 ij h2 ik h3 il),tA 33 (B8 z aa ab),tP 1 0 0] ah1)=>hK _ _ oo.plOk ?_⟩
 obtain⟨x32,ex32,H⟩:=H
 refine Dl 1 fun K hK=>?_
 refine wc [] aci oo (Eo n oo.has  ex32) fun ano ajl p3 wj gn ou=>?_
 obtain⟨_,rfl,⟨_,_,rfl,⟨ls,l8,rfl,pm⟩,⟨_,_,rfl,⟨lu,mc,rfl,ps⟩,⟨ly,md,rfl,pt⟩⟩⟩⟩:=wj
 refine⟨.one (.agg [.slice ls x32.holds.length l8,.slice lu x32.turns.length mc,.slice ly x32.spares.length md]),rfl,fun ah8 (w9:Kn 238 [(a,0)] [tA 32 [.slice ls x32.holds.length l8,.slice lu x32.turns.length mc,.slice ly x32.spares.length md],tA 31 (KB h1 x31 ij h2 ik h3 il),tA 33 (B8 z aa ab),tP 1 0 0] ah8)=>hK _ _ ou.plOk ?_⟩
 obtain⟨qd,e8,aeq,mm⟩:=ou.settle (i:=0) rfl
 replace ec:=ec.mono (QU (QU (QU (QU (QU k3 j9) ix) hc) gn) e8)
 replace mm:Ah ⟨w,h,Az⟩ qd [(a,0)] [⟨B8 z aa ab,some 76⟩] [⟨z,2,2,3,1,([.int .i64 0,.int .i64 15]:List Value),2⟩,⟨aa,2,2,3,1,([.int .i64 0,.int .i64 0]:List Value),0⟩,⟨aj,3,3,3,1,([.int .i64 10,.int .i64 10,.int .i64 10]:List Value),3⟩,⟨ak,3,3,3,1,([.int .i64 10,.int .i64 10,.int .i64 10]:List Value),3⟩,⟨y,3,3,3,1,([.int .i64 10,.int .i64 10,.int .i64 10]:List Value),3⟩,⟨ab,3,3,31,1,([.slice aj 3 3,.slice ak 3 3,.slice y 3 3]:List Value),0⟩] p3:=mm
 have ee:Ar qd z 2 ([0,15]:List Int):=⟨_,ec,aeq,ou.rowCap (i:=0) rfl⟩
 obtain⟨qe,eu,aer,mp⟩:=mm.settle (i:=1) rfl
 replace d8:=d8.mono (QU (QU (QU (QU (QU (QU k3 j9) ix) hc) gn) e8) eu)
 replace mp:Ah ⟨w,h,Az⟩ qe [(a,0)] [⟨B8 z aa ab,some 76⟩] [⟨z,2,2,3,1,([.int .i64 0,.int .i64 15]:List Value),2⟩,⟨aa,2,2,3,1,([.int .i64 0,.int .i64 0]:List Value),2⟩,⟨aj,3,3,3,1,([.int .i64 10,.int .i64 10,.int .i64 10]:List Value),3⟩,⟨ak,3,3,3,1,([.int .i64 10,.int .i64 10,.int .i64 10]:List Value),3⟩,⟨y,3,3,3,1,([.int .i64 10,.int .i64 10,.int .i64 10]:List Value),3⟩,⟨ab,3,3,31,1,([.slice aj 3 3,.slice ak 3 3,.slice y 3 3]:List Value),0⟩] p3:=mp
 have ef:Ar qe aa 2 ([0,0]:List Int):=⟨_,d8,aer,mm.rowCap (i:=1) rfl⟩
 obtain⟨ke,em,aes,mr⟩:=mp.settle (i:=5) rfl
 replace pf:=pf.mono (QU (QU (QU gn e8) eu) em)
 replace pg:=pg.mono (QU (QU (QU gn e8) eu) em)
 replace ph:=ph.mono (QU (QU (QU gn e8) eu) em)
 replace pm:=pm.mono (QU (QU e8 eu) em)
 replace ps:=ps.mono (QU (QU e8 eu) em)
 replace pt:=pt.mono (QU (QU e8 eu) em)
 replace ee:=ee.mono (QU eu em)
 replace ef:=ef.mono em
 replace el:=el.mono (QU (QU (QU (QU hc gn) e8) eu) em)
 replace mr:Ah ⟨w,h,Az⟩ ke [(a,0)] [⟨B8 z aa ab,some 76⟩] (G1 z aa aj ak y ab) p3:=mr
 have ek:Ar ke ab 3 ([([10,10,10]:List Int),([10,10,10]:List Int),([10,10,10]:List Int)]:List (List Int)):=⟨_,el,aes,mp.rowCap (i:=5) rfl⟩
 obtain⟨x34,ex34,H⟩:=H
 refine Dl 3 fun K hK=>?_
 refine wc [.agg (KB h1 x31 ij h2 ik h3 il),.agg [.slice ls x32.holds.length l8,.slice lu x32.turns.length mc,.slice ly x32.spares.length md],.agg (B8 z aa ab)] w9 mr (Gf n mr.has x31 ((Aa (Ae pf) (Aa (Aa Ac Ac) (Aa (Ae pg) (Aa (Ae ph) (Aa Ac (Aa Ac (Aa Ac Ac))))))):rep ke x31 _) x32 ((Aa (Ae pm) (Aa (Ae ps) (Ae pt))):rep ke x32 _) (AB.mk ([0,15]:List Int) ([0,0]:List Int) ([([10,10,10]:List Int),([10,10,10]:List Int),([10,10,10]:List Int)]:List (List Int))) ((Aa (Ae ee) (Aa (Ae ef) (Ae ek))):rep ke (AB.mk ([0,15]:List Int) ([0,0]:List Int) ([([10,10,10]:List Int),([10,10,10]:List Int),([10,10,10]:List Int)]:List (List Int))) _) ex34) fun amt aja aoa vl gm iy=>?_
 obtain⟨_,_,rfl,⟨br,bt,rfl,gv⟩,rfl⟩:=vl
 refine⟨.tup [.c (.slice br x34.1.length bt),.c (.int .i64 x34.2)],rfl,fun agp (yj:Kn 238 [(a,0)] [(34,.tup [.c (.slice br x34.1.length bt),.c (.int .i64 x34.2)]),tA 32 [.slice ls x32.holds.length l8,.slice lu x32.turns.length mc,.slice ly x32.spares.length md],tA 31 (KB h1 x31 ij h2 ik h3 il),tA 33 (B8 z aa ab),tP 1 0 0] agp)=>hK _ _ iy.plOk ?_⟩
 refine Dr [4,5,6,7,8] [8,7,6,5,4,3,1,0,2] [tI 3 x34.2,tS 2 br x34.1.length bt,tP 1 0 0] yj iy fun akq yn=>?_
 refine AH (by kernel_rfl) (QT (Ao (by kernel_rfl) ?_))
 replace iy:=iy.drew
 refine At [] [(a,0)] [⟨B8 z aa ab,some 76⟩] ?_
 refine Dr [2] [2] [tA 40 (B8 z aa ab),tI 3 x34.2,tS 2 br x34.1.length bt,tP 1 0 0] yn iy fun aks yr=>?_
 obtain⟨x38,ex38,H⟩:=H
 refine Dl 0 fun K hK=>?_
 refine wc [] yr iy (Bi n iy.has  ex38) fun amv ajb aoh vp fw oe=>?_
 obtain⟨_,rfl,⟨_,_,rfl,⟨hu,ib,rfl,ow⟩,⟨_,_,rfl,⟨_,_,rfl,rfl,rfl⟩,⟨_,_,rfl,⟨hv,ic,rfl,ox⟩,⟨_,_,rfl,⟨hw,ie,rfl,oy⟩,⟨_,_,rfl,rfl,⟨_,_,rfl,rfl,⟨_,_,rfl,rfl,rfl⟩⟩⟩⟩⟩⟩⟩⟩:=vp
 refine⟨.one (.agg (KC hu x38 ib hv ic hw ie)),rfl,fun agx (zr:Kn 238 [(a,0)] [tA 38 (KC hu x38 ib hv ic hw ie),tA 40 (B8 z aa ab),tI 3 x34.2,tS 2 br x34.1.length bt,tP 1 0 0] agx)=>hK _ _ oe.plOk ?_⟩
 obtain⟨x39,ex39,H⟩:=H
 refine Dl 1 fun K hK=>?_
 refine wc [] zr oe (Eo n oe.has  ex39) fun am1 n0 aoi vt ev oh=>?_
 replace ee:=ee.mono (QU (QU gm fw) ev)
 replace ef:=ef.mono (QU (QU gm fw) ev)
 replace ek:=ek.mono (QU (QU gm fw) ev)
 replace ow:=ow.mono ev
 replace ox:=ox.mono ev
 replace oy:=oy.mono ev
 obtain⟨_,rfl,⟨_,_,rfl,⟨ll,l2,rfl,aef⟩,⟨_,_,rfl,⟨lm,l3,rfl,aeg⟩,⟨ln,l4,rfl,aeh⟩⟩⟩⟩:=vt
 refine⟨.one (.agg [.slice ll x39.holds.length l2,.slice lm x39.turns.length l3,.slice ln x39.spares.length l4]),rfl,fun agz (zs:Kn 238 [(a,0)] [tA 39 [.slice ll x39.holds.length l2,.slice lm x39.turns.length l3,.slice ln x39.spares.length l4],tA 38 (KC hu x38 ib hv ic hw ie),tA 40 (B8 z aa ab),tI 3 x34.2,tS 2 br x34.1.length bt,tP 1 0 0] agz)=>hK _ _ oh.plOk ?_⟩
 obtain⟨x41,ex41,H⟩:=H
 refine Dl 3 fun K hK=>?_
 refine wc [.agg (KC hu x38 ib hv ic hw ie),.agg [.slice ll x39.holds.length l2,.slice lm x39.turns.length l3,.slice ln x39.spares.length l4],.agg (B8 z aa ab)] zs oh (GH n oh.has x38 ((Aa (Ae ow) (Aa (Aa Ac Ac) (Aa (Ae ox) (Aa (Ae oy) (Aa Ac (Aa Ac (Aa Ac Ac))))))):rep n0 x38 _) x39 ((Aa (Ae aef) (Aa (Ae aeg) (Ae aeh))):rep n0 x39 _) (AB.mk ([0,15]:List Int) ([0,0]:List Int) ([([10,10,10]:List Int),([10,10,10]:List Int),([10,10,10]:List Int)]:List (List Int))) ((Aa (Ae ee) (Aa (Ae ef) (Ae ek))):rep n0 (AB.mk ([0,15]:List Int) ([0,0]:List Int) ([([10,10,10]:List Int),([10,10,10]:List Int),([10,10,10]:List Int)]:List (List Int))) _) ex41) fun am2 ajc aoj vu fx m0=>?_
 obtain⟨_,_,rfl,⟨bp,bq,rfl,f8⟩,rfl⟩:=vu
 refine⟨.tup [.c (.slice bp x41.1.length bq),.c (.int .i64 x41.2)],rfl,fun ag0 (zt:Kn 238 [(a,0)] [(41,.tup [.c (.slice bp x41.1.length bq),.c (.int .i64 x41.2)]),tA 39 [.slice ll x39.holds.length l2,.slice lm x39.turns.length l3,.slice ln x39.spares.length l4],tA 38 (KC hu x38 ib hv ic hw ie),tA 40 (B8 z aa ab),tI 3 x34.2,tS 2 br x34.1.length bt,tP 1 0 0] ag0)=>hK _ _ m0.plOk ?_⟩
 refine Dr [4,5,6,7,8] [8,7,6,5,4,3,1,0,2] [tI 5 x41.2,tS 4 bp x41.1.length bq,tI 3 x34.2,tS 2 br x34.1.length bt,tP 1 0 0] zt m0 fun ala zu=>?_
 refine AH (by kernel_rfl) (QT (Ab ?_))
 obtain⟨x45,ex45,H⟩:=H
 refine wl fun K hK=>?_
 refine wc [] zu m0 (Bi n m0.has  ex45) fun am3 ajd aol vv fm s2=>?_
 obtain⟨_,rfl,⟨_,_,rfl,⟨hx,ig,rfl,oz⟩,⟨_,_,rfl,⟨_,_,rfl,rfl,rfl⟩,⟨_,_,rfl,⟨hy,ih,rfl,o0⟩,⟨_,_,rfl,⟨hz,ii,rfl,o1⟩,⟨_,_,rfl,rfl,⟨_,_,rfl,rfl,⟨_,_,rfl,rfl,rfl⟩⟩⟩⟩⟩⟩⟩⟩:=vv
 refine⟨.one (.agg (KD hx x45 ig hy ih hz ii)),rfl,fun ag1 (zw:Kn 238 [(a,0)] [tA 45 (KD hx x45 ig hy ih hz ii),tI 5 x41.2,tS 4 bp x41.1.length bq,tI 3 x34.2,tS 2 br x34.1.length bt,tP 1 0 0] ag1)=>hK _ _ ?_⟩
 obtain⟨x46,ex46,H⟩:=H
 refine wl fun K hK=>?_
 refine wc [] zw s2 (JF n s2.has  ex46) fun am4 qk aom vw en s3=>?_
 replace oz:=oz.mono en
 replace o0:=o0.mono en
 replace o1:=o1.mono en
 obtain⟨_,rfl,⟨_,_,rfl,⟨lp,l5,rfl,aei⟩,⟨_,_,rfl,⟨lq,l6,rfl,aej⟩,⟨lr,l7,rfl,aek⟩⟩⟩⟩:=vw
 refine⟨.one (.agg [.slice lp x46.holds.length l5,.slice lq x46.turns.length l6,.slice lr x46.spares.length l7]),rfl,fun ag2 (zy:Kn 238 [(a,0)] [tA 46 [.slice lp x46.holds.length l5,.slice lq x46.turns.length l6,.slice lr x46.spares.length l7],tA 45 (KD hx x45 ig hy ih hz ii),tI 5 x41.2,tS 4 bp x41.1.length bq,tI 3 x34.2,tS 2 br x34.1.length bt,tP 1 0 0] ag2)=>hK _ _ ?_⟩
 obtain⟨x47,ex47,H⟩:=H
 refine wl fun K hK=>?_
 refine wc [.agg (KD hx x45 ig hy ih hz ii),.agg [.slice lp x46.holds.length l5,.slice lq x46.turns.length l6,.slice lr x46.spares.length l7]] zy s3 (C0 n s3.has x45 ((Aa (Ae oz) (Aa (Aa Ac Ac) (Aa (Ae o0) (Aa (Ae o1) (Aa Ac (Aa Ac (Aa Ac Ac))))))):rep qk x45 _) x46 ((Aa (Ae aei) (Aa (Ae aej) (Ae aek))):rep qk x46 _) ex47) fun am5 mf aon vx fn g2=>?_
 replace es:=es.mono (QU (QU (QU (QU (QU (QU (QU (QU (QU (QU (QU hc gn) e8) eu) em) gm) fw) ev) fx) fm) en) fn)
 replace et:=et.mono (QU (QU (QU (QU (QU (QU (QU (QU (QU (QU (QU hc gn) e8) eu) em) gm) fw) ev) fx) fm) en) fn)
 replace fe:=fe.mono (QU (QU (QU (QU (QU (QU (QU (QU (QU (QU (QU hc gn) e8) eu) em) gm) fw) ev) fx) fm) en) fn)
 replace ee:=ee.mono (QU (QU (QU fx fm) en) fn)
 replace ef:=ef.mono (QU (QU (QU fx fm) en) fn)
 replace ek:=ek.mono (QU (QU (QU fx fm) en) fn)
 replace gv:=gv.mono (QU (QU (QU (QU (QU fw ev) fx) fm) en) fn)
 replace f8:=f8.mono (QU (QU fm en) fn)
 replace ec:=ec.mono (QU (QU (QU (QU (QU (QU (QU (QU eu em) gm) fw) ev) fx) fm) en) fn)
 replace d8:=d8.mono (QU (QU (QU (QU (QU (QU (QU em gm) fw) ev) fx) fm) en) fn)
 replace d9:=d9.mono (QU (QU (QU (QU (QU (QU (QU (QU (QU (QU (QU (QU (QU j9 ix) hc) gn) e8) eu) em) gm) fw) ev) fx) fm) en) fn)
 replace ea:=ea.mono (QU (QU (QU (QU (QU (QU (QU (QU (QU (QU (QU (QU ix hc) gn) e8) eu) em) gm) fw) ev) fx) fm) en) fn)
 replace eb:=eb.mono (QU (QU (QU (QU (QU (QU (QU (QU (QU (QU (QU hc gn) e8) eu) em) gm) fw) ev) fx) fm) en) fn)
 replace el:=el.mono (QU (QU (QU (QU (QU (QU gm fw) ev) fx) fm) en) fn)
 obtain⟨_,_,rfl,⟨bh,bi,rfl,f9⟩,rfl⟩:=vx
 refine⟨.tup [.c (.slice bh x47.1.length bi),.c (.int .i64 x47.2)],rfl,fun ag4 (zz:Kn 238 [(a,0)] [(47,.tup [.c (.slice bh x47.1.length bi),.c (.int .i64 x47.2)]),tA 46 [.slice lp x46.holds.length l5,.slice lq x46.turns.length l6,.slice lr x46.spares.length l7],tA 45 (KD hx x45 ig hy ih hz ii),tI 5 x41.2,tS 4 bp x41.1.length bq,tI 3 x34.2,tS 2 br x34.1.length bt,tP 1 0 0] ag4)=>hK _ _ ?_⟩
 refine Rk 3 5 [tI 7 x47.2,tS 6 bh x47.1.length bi,tI 5 x41.2,tS 4 bp x41.1.length bq,tI 3 x34.2,tS 2 br x34.1.length bt,tP 1 0 0] zz g2 fun alb z0=>?_
 refine wf (QT (QT (Ab (Rk 0 3 ((tB 52 (x34.2 != 0))::(BC x47 bh bi x41 bp bq br x34 bt)) z0 g2 fun uv rx=>?_))))
 rcases Bool.eq_false_or_eq_true ((x34.2 != 0)) with kt | kt
 ·
  rw [kt,QW] at H
  have z1:Kn 238 [(a,0)] ((tB 52 true)::(BC x47 bh bi x41 bp bq br x34 bt)) uv:=(rx.setB 52 true (by rfl) kt).kp
  refine Rk 3 56 [tB 108 true,tP 1 0 0] z1 g2 fun alc ry=>?_
  refine wf (wC true ry (fun hb=>?_) (fun hb=>?_))
  rotate_left
  ·
   cases hb
  refine QT (Ab (Rk 0 1 [tB 0 false] ry g2 fun ald z2=>?_))
  refine wf (wp_ret ?_)
  exact rt (.one (.c (.bool false))) z2 g2 ⟨_,H,rfl⟩
 ·
  rw [kt,QV] at H
  have z3:Kn 238 [(a,0)] ((tB 52 false)::(BC x47 bh bi x41 bp bq br x34 bt)) uv:=(rx.setB 52 false (by rfl) kt).kp
  refine Rk 3 5 ((tB 57 (((x34.1.length:Nat):Int) != 4))::(BC x47 bh bi x41 bp bq br x34 bt)) z3 g2 fun uw rz=>?_
  rcases Bool.eq_false_or_eq_true ((((x34.1.length:Nat):Int) != 4)) with ku | ku
  ·
   rw [ku,QW] at H
   have z4:Kn 238 [(a,0)] ((tB 57 true)::(BC x47 bh bi x41 bp bq br x34 bt)) uw:=(rz.setB 57 true (by rfl) ku).kp
   refine Rk 8 51 [tB 108 true,tP 1 0 0] z4 g2 fun ale r0=>?_
   refine wf (wC true r0 (fun hb=>?_) (fun hb=>?_))
   rotate_left
   ·
    cases hb
   refine QT (Ab (Rk 0 1 [tB 0 false] r0 g2 fun alf z6=>?_))
   refine wf (wp_ret ?_)
   exact rt (.one (.c (.bool false))) z6 g2 ⟨_,H,rfl⟩
  ·
   rw [ku,QV] at H
   have z7:Kn 238 [(a,0)] ((tB 57 false)::(BC x47 bh bi x41 bp bq br x34 bt)) uw:=(rz.setB 57 false (by rfl) ku).kp
   refine Rk 8 1 ((tS 58 br x34.1.length bt)::(tB 57 false)::(BC x47 bh bi x41 bp bq br x34 bt)) z7 g2 fun alg r1=>?_
   obtain⟨x59,ex59,H⟩:=H
   obtain⟨ad3,ad8,afw⟩:=Ak ex59
   obtain⟨f,g,aiy,ww,afn,w1⟩:=gv.get (by decide) afw
   obtain⟨cg,ch,rfl,fd⟩:=afn
   have s4:=g2.addPlc (b:=f) (o:=g+(0:Int).toNat*1) (cs:=[.slice cg x59.length ch]) (fun j c hj=>w1 j _ (Al hj)) rfl (by kernel_rfl) (by kernel_rfl)
   refine A6 9 (0) rfl rfl (Ai r1 (by kernel_rfl)) rfl (by decide) r1 (by rfl) (by rfl) (by rfl) ww (by rfl) ad3 ad8 (by kernel_rfl) fun ag5 (z8:Kn 238 (K9 a f g) ((tP 59 1 0)::(tS 58 br x34.1.length bt)::(tB 57 false)::(BC x47 bh bi x41 bp bq br x34 bt)) ag5)=>?_
   refine Rk 10 1 ((tS 60 cg x59.length ch)::(tB 57 false)::(BC x47 bh bi x41 bp bq br x34 bt)) z8 s4 fun alh r2=>?_
   refine Aq _ rfl (Ai r2 (by kernel_rfl)) fun K hK=>?_
   refine wS 3 1 [.int .i64 0,.int .i64 15,.int .i64 50] r2 s4 fun g7 ag6 aih (r3:Kn 238 (K9 a f g) ((tS 61 g7 3 3)::(tS 60 cg x59.length ch)::(tB 57 false)::(BC x47 bh bi x41 bp bq br x34 bt)) ag6) s5=>?_
   have fv:Af mf ([0,15,50]:List Int) ([.int .i64 0,.int .i64 15,.int .i64 50]:List Value):=⟨_,_,rfl,(Ac:rep mf (0:Int) _),⟨_,_,rfl,(Ac:rep mf (15:Int) _),⟨_,_,rfl,(Ac:rep mf (50:Int) _),rfl⟩⟩⟩
   refine hK _ _ ?_
   obtain⟨ql,eo,aey,m1⟩:=s5.settle (i:=6) rfl
   replace fd:=fd.mono eo
   replace fv:=fv.mono eo
   replace m1:Ah ⟨w,h,Az⟩ ql (K9 a f g) [⟨B8 z aa ab,some 76⟩,⟨[.slice cg x59.length ch],none⟩] [⟨z,2,2,3,1,([.int .i64 0,.int .i64 15]:List Value),2⟩,⟨aa,2,2,3,1,([.int .i64 0,.int .i64 0]:List Value),2⟩,⟨aj,3,3,3,1,([.int .i64 10,.int .i64 10,.int .i64 10]:List Value),3⟩,⟨ak,3,3,3,1,([.int .i64 10,.int .i64 10,.int .i64 10]:List Value),3⟩,⟨y,3,3,3,1,([.int .i64 10,.int .i64 10,.int .i64 10]:List Value),3⟩,⟨ab,3,3,31,1,([.slice aj 3 3,.slice ak 3 3,.slice y 3 3]:List Value),3⟩,⟨g7,3,3,3,1,([.int .i64 0,.int .i64 15,.int .i64 50]:List Value),3⟩] aih:=m1
   have ga:Ar ql g7 3 ([0,15,50]:List Int):=⟨_,fv,aey,s5.rowCap (i:=6) rfl⟩
   obtain⟨x62,ex62,H⟩:=H
   refine Aq _ rfl (Ai r3 (by kernel_rfl)) fun K hK=>?_
   refine wc [.c (.slice cg x59.length ch),.c (.slice g7 3 3)] r3 m1 (Cy n m1.has x59 fd ([0,15,50]:List Int) ga ex62) fun am6 ju aii vy eg k6=>?_
   replace es:=es.mono (QU eo eg)
   replace et:=et.mono (QU eo eg)
   replace fe:=fe.mono (QU eo eg)
   replace ee:=ee.mono (QU eo eg)
   replace ef:=ef.mono (QU eo eg)
   replace ek:=ek.mono (QU eo eg)
   replace gv:=gv.mono (QU eo eg)
   replace f8:=f8.mono (QU eo eg)
   replace f9:=f9.mono (QU eo eg)
   replace fd:=fd.mono eg
   replace ga:=ga.mono eg
   replace ec:=ec.mono (QU eo eg)
   replace d8:=d8.mono (QU eo eg)
   replace d9:=d9.mono (QU eo eg)
   replace ea:=ea.mono (QU eo eg)
   replace eb:=eb.mono (QU eo eg)
   replace el:=el.mono (QU eo eg)
   replace fv:=fv.mono eg
   obtain rfl:=vy
   refine⟨.one (.c (.bool x62)),rfl,fun ag7 (z9:Kn 238 (K9 a f g) ((tB 62 x62)::(tS 61 g7 3 3)::(tS 60 cg x59.length ch)::(tB 57 false)::(BC x47 bh bi x41 bp bq br x34 bt)) ag7)=>hK _ _ ?_⟩
   refine Rk 13 3 ((tB 65 (!x62))::(BC x47 bh bi x41 bp bq br x34 bt)) z9 k6 fun ux r4=>?_
   rcases Bool.eq_false_or_eq_true ((!x62)) with kv | kv
   ·
    rw [kv,QW] at H
    have aaa:Kn 238 (K9 a f g) ((tB 65 true)::(BC x47 bh bi x41 bp bq br x34 bt)) ux:=(r4.setB 65 true (by rfl) kv).kp
    refine Rk 16 43 [tB 108 true,tP 1 0 0] aaa k6 fun ali r5=>?_
    refine wf ?_
    have s6:Ah ⟨w,h,Az⟩ ju (K9 a f g) [⟨B8 z aa ab,some 76⟩,⟨[.slice cg x59.length ch],none⟩] (G1 z aa aj ak y ab) aii:=k6.cutRw 6
    refine wC true r5 (fun hb=>?_) (fun hb=>?_)
    rotate_left
    ·
     cases hb
    refine QT (Ab (Rk 0 1 [tB 0 false] r5 s6 fun alj aab=>?_))
    refine wf (wp_ret ?_)
    exact rt (.one (.c (.bool false))) aab s6 ⟨_,H,rfl⟩
   ·
    rw [kv,QV] at H
    have aac:Kn 238 (K9 a f g) ((tB 65 false)::(BC x47 bh bi x41 bp bq br x34 bt)) ux:=(r4.setB 65 false (by rfl) kv).kp
    refine Rk 16 1 ((tS 66 br x34.1.length bt)::(tB 65 false)::(BC x47 bh bi x41 bp bq br x34 bt)) aac k6 fun alk r6=>?_
    obtain⟨x67,ex67,H⟩:=H
    obtain⟨ad4,ad9,afx⟩:=Ak ex67
    obtain⟨l,m,aiz,wx,afo,w2⟩:=gv.get (by decide) afx
    obtain⟨cp,ct,rfl,gb⟩:=afo
    have s7:=k6.addPlc (b:=l) (o:=m+(1:Int).toNat*1) (cs:=[.slice cp x67.length ct]) (fun j c hj=>w2 j _ (Al hj)) rfl (by kernel_rfl) (by kernel_rfl)
    refine A6 17 (1) rfl rfl (Ai r6 (by kernel_rfl)) rfl (by decide) r6 (by rfl) (by rfl) (by rfl) wx (by rfl) ad4 ad9 (by kernel_rfl) fun ag9 (aae:Kn 238 (KA a f g l m) ((tP 67 2 0)::(tS 66 br x34.1.length bt)::(tB 65 false)::(BC x47 bh bi x41 bp bq br x34 bt)) ag9)=>?_
    refine Rk 18 1 ((tS 68 cp x67.length ct)::(tB 65 false)::(BC x47 bh bi x41 bp bq br x34 bt)) aae s7 fun all r7=>?_
    refine Aq _ rfl (Ai r7 (by kernel_rfl)) fun K hK=>?_
    refine wS 3 1 [.int .i64 0,.int .i64 10,.int .i64 25,.int .i64 50] r7 s7 fun g9 aha aij (r8:Kn 238 (KA a f g l m) ((tS 69 g9 4 4)::(tS 68 cp x67.length ct)::(tB 65 false)::(BC x47 bh bi x41 bp bq br x34 bt)) aha) s9=>?_
    have gy:Af ju ([0,10,25,50]:List Int) ([.int .i64 0,.int .i64 10,.int .i64 25,.int .i64 50]:List Value):=⟨_,_,rfl,(Ac:rep ju (0:Int) _),⟨_,_,rfl,(Ac:rep ju (10:Int) _),⟨_,_,rfl,(Ac:rep ju (25:Int) _),⟨_,_,rfl,(Ac:rep ju (50:Int) _),rfl⟩⟩⟩⟩
    refine hK _ _ ?_
    obtain⟨qm,ed,aez,m2⟩:=s9.settle (i:=7) rfl
    replace gb:=gb.mono ed
    replace gy:=gy.mono ed
    replace m2:Ah ⟨w,h,Az⟩ qm (KA a f g l m) [⟨B8 z aa ab,some 76⟩,⟨[.slice cg x59.length ch],none⟩,⟨[.slice cp x67.length ct],none⟩] [⟨z,2,2,3,1,([.int .i64 0,.int .i64 15]:List Value),2⟩,⟨aa,2,2,3,1,([.int .i64 0,.int .i64 0]:List Value),2⟩,⟨aj,3,3,3,1,([.int .i64 10,.int .i64 10,.int .i64 10]:List Value),3⟩,⟨ak,3,3,3,1,([.int .i64 10,.int .i64 10,.int .i64 10]:List Value),3⟩,⟨y,3,3,3,1,([.int .i64 10,.int .i64 10,.int .i64 10]:List Value),3⟩,⟨ab,3,3,31,1,([.slice aj 3 3,.slice ak 3 3,.slice y 3 3]:List Value),3⟩,⟨g7,3,3,3,1,([.int .i64 0,.int .i64 15,.int .i64 50]:List Value),3⟩,⟨g9,4,4,3,1,([.int .i64 0,.int .i64 10,.int .i64 25,.int .i64 50]:List Value),4⟩] aij:=m2
    have g5:Ar qm g9 4 ([0,10,25,50]:List Int):=⟨_,gy,aez,s9.rowCap (i:=7) rfl⟩
    obtain⟨x70,ex70,H⟩:=H
    refine Aq _ rfl (Ai r8 (by kernel_rfl)) fun K hK=>?_
    refine wc [.c (.slice cp x67.length ct),.c (.slice g9 4 4)] r8 m2 (Cy n m2.has x67 gb ([0,10,25,50]:List Int) g5 ex70) fun am7 jv aik vz d6 k7=>?_
    replace es:=es.mono (QU ed d6)
    replace et:=et.mono (QU ed d6)
    replace fe:=fe.mono (QU ed d6)
    replace ee:=ee.mono (QU ed d6)
    replace ef:=ef.mono (QU ed d6)
    replace ek:=ek.mono (QU ed d6)
    replace gv:=gv.mono (QU ed d6)
    replace f8:=f8.mono (QU ed d6)
    replace f9:=f9.mono (QU ed d6)
    replace fd:=fd.mono (QU ed d6)
    replace ga:=ga.mono (QU ed d6)
    replace gb:=gb.mono d6
    replace g5:=g5.mono d6
    replace ec:=ec.mono (QU ed d6)
    replace d8:=d8.mono (QU ed d6)
    replace d9:=d9.mono (QU ed d6)
    replace ea:=ea.mono (QU ed d6)
    replace eb:=eb.mono (QU ed d6)
    replace el:=el.mono (QU ed d6)
    replace fv:=fv.mono (QU ed d6)
    replace gy:=gy.mono d6
    obtain rfl:=vz
    refine⟨.one (.c (.bool x70)),rfl,fun ahb (aaf:Kn 238 (KA a f g l m) ((tB 70 x70)::(tS 69 g9 4 4)::(tS 68 cp x67.length ct)::(tB 65 false)::(BC x47 bh bi x41 bp bq br x34 bt)) ahb)=>hK _ _ ?_⟩
    refine Rk 21 3 ((tB 73 (!x70))::(BC x47 bh bi x41 bp bq br x34 bt)) aaf k7 fun uy r9=>?_
    rcases Bool.eq_false_or_eq_true ((!x70)) with kw | kw
    ·
     rw [kw,QW] at H
     have aag:Kn 238 (KA a f g l m) ((tB 73 true)::(BC x47 bh bi x41 bp bq br x34 bt)) uy:=(r9.setB 73 true (by rfl) kw).kp
     refine Rk 24 35 [tB 108 true,tP 1 0 0] aag k7 fun alm sa=>?_
     refine wf ?_
     have ta:Ah ⟨w,h,Az⟩ jv (KA a f g l m) [⟨B8 z aa ab,some 76⟩,⟨[.slice cg x59.length ch],none⟩,⟨[.slice cp x67.length ct],none⟩] (G1 z aa aj ak y ab) aik:=k7.cutRw 6
     refine wC true sa (fun hb=>?_) (fun hb=>?_)
     rotate_left
     ·
      cases hb
     refine QT (Ab (Rk 0 1 [tB 0 false] sa ta fun aln aah=>?_))
     refine wf (wp_ret ?_)
     exact rt (.one (.c (.bool false))) aah ta ⟨_,H,rfl⟩
    ·
     rw [kw,QV] at H
     have aai:Kn 238 (KA a f g l m) ((tB 73 false)::(BC x47 bh bi x41 bp bq br x34 bt)) uy:=(r9.setB 73 false (by rfl) kw).kp
     refine Rk 24 1 ((tS 74 br x34.1.length bt)::(tB 73 false)::(BC x47 bh bi x41 bp bq br x34 bt)) aai k7 fun alo sb=>?_
     obtain⟨x75,ex75,H⟩:=H
     obtain⟨ad5,aea,afy⟩:=Ak ex75
     obtain⟨p,q,ai0,wy,afp,w3⟩:=gv.get (by decide) afy
     obtain⟨cy,c2,rfl,g6⟩:=afp
     have tb:=k7.addPlc (b:=p) (o:=q+(2:Int).toNat*1) (cs:=[.slice cy x75.length c2]) (fun j c hj=>w3 j _ (Al hj)) rfl (by kernel_rfl) (by kernel_rfl)
     refine A6 25 (2) rfl rfl (Ai sb (by kernel_rfl)) rfl (by decide) sb (by rfl) (by rfl) (by rfl) wy (by rfl) ad5 aea (by kernel_rfl) fun ahc (aaj:Kn 238 (Ig a f g l m p q) ((tP 75 3 0)::(tS 74 br x34.1.length bt)::(tB 73 false)::(BC x47 bh bi x41 bp bq br x34 bt)) ahc)=>?_
     refine Rk 26 1 ((tS 76 cy x75.length c2)::(tB 73 false)::(BC x47 bh bi x41 bp bq br x34 bt)) aaj tb fun alp sc=>?_
     refine Aq _ rfl (Ai sc (by kernel_rfl)) fun K hK=>?_
     refine wS 3 1 [.int .i64 0,.int .i64 20,.int .i64 35,.int .i64 50] sc tb fun ho ahd ail (sd:Kn 238 (Ig a f g l m p q) ((tS 77 ho 4 4)::(tS 76 cy x75.length c2)::(tB 73 false)::(BC x47 bh bi x41 bp bq br x34 bt)) ahd) tc=>?_
     have ha:Af jv ([0,20,35,50]:List Int) ([.int .i64 0,.int .i64 20,.int .i64 35,.int .i64 50]:List Value):=⟨_,_,rfl,(Ac:rep jv (0:Int) _),⟨_,_,rfl,(Ac:rep jv (20:Int) _),⟨_,_,rfl,(Ac:rep jv (35:Int) _),⟨_,_,rfl,(Ac:rep jv (50:Int) _),rfl⟩⟩⟩⟩
     refine hK _ _ ?_
     obtain⟨qo,dx,ae1,m4⟩:=tc.settle (i:=8) rfl
     replace g6:=g6.mono dx
     replace ha:=ha.mono dx
     replace m4:Ah ⟨w,h,Az⟩ qo (Ig a f g l m p q) [⟨B8 z aa ab,some 76⟩,⟨[.slice cg x59.length ch],none⟩,⟨[.slice cp x67.length ct],none⟩,⟨[.slice cy x75.length c2],none⟩] [⟨z,2,2,3,1,([.int .i64 0,.int .i64 15]:List Value),2⟩,⟨aa,2,2,3,1,([.int .i64 0,.int .i64 0]:List Value),2⟩,⟨aj,3,3,3,1,([.int .i64 10,.int .i64 10,.int .i64 10]:List Value),3⟩,⟨ak,3,3,3,1,([.int .i64 10,.int .i64 10,.int .i64 10]:List Value),3⟩,⟨y,3,3,3,1,([.int .i64 10,.int .i64 10,.int .i64 10]:List Value),3⟩,⟨ab,3,3,31,1,([.slice aj 3 3,.slice ak 3 3,.slice y 3 3]:List Value),3⟩,⟨g7,3,3,3,1,([.int .i64 0,.int .i64 15,.int .i64 50]:List Value),3⟩,⟨g9,4,4,3,1,([.int .i64 0,.int .i64 10,.int .i64 25,.int .i64 50]:List Value),4⟩,⟨ho,4,4,3,1,([.int .i64 0,.int .i64 20,.int .i64 35,.int .i64 50]:List Value),4⟩] ail:=m4
     have hl:Ar qo ho 4 ([0,20,35,50]:List Int):=⟨_,ha,ae1,tc.rowCap (i:=8) rfl⟩
     obtain⟨x78,ex78,H⟩:=H
     refine Aq _ rfl (Ai sd (by kernel_rfl)) fun K hK=>?_
     refine wc [.c (.slice cy x75.length c2),.c (.slice ho 4 4)] sd m4 (Cy n m4.has x75 g6 ([0,20,35,50]:List Int) hl ex78) fun am8 jw aim v0 du k8=>?_
     replace es:=es.mono (QU dx du)
     replace et:=et.mono (QU dx du)
     replace fe:=fe.mono (QU dx du)
     replace ee:=ee.mono (QU dx du)
     replace ef:=ef.mono (QU dx du)
     replace ek:=ek.mono (QU dx du)
     replace gv:=gv.mono (QU dx du)
     replace f8:=f8.mono (QU dx du)
     replace f9:=f9.mono (QU dx du)
     replace fd:=fd.mono (QU dx du)
     replace ga:=ga.mono (QU dx du)
     replace gb:=gb.mono (QU dx du)
     replace g5:=g5.mono (QU dx du)
     replace g6:=g6.mono du
     replace hl:=hl.mono du
     replace ec:=ec.mono (QU dx du)
     replace d8:=d8.mono (QU dx du)
     replace d9:=d9.mono (QU dx du)
     replace ea:=ea.mono (QU dx du)
     replace eb:=eb.mono (QU dx du)
     replace el:=el.mono (QU dx du)
     replace fv:=fv.mono (QU dx du)
     replace gy:=gy.mono (QU dx du)
     replace ha:=ha.mono du
     obtain rfl:=v0
     refine⟨.one (.c (.bool x78)),rfl,fun ahe (aak:Kn 238 (Ig a f g l m p q) ((tB 78 x78)::(tS 77 ho 4 4)::(tS 76 cy x75.length c2)::(tB 73 false)::(BC x47 bh bi x41 bp bq br x34 bt)) ahe)=>hK _ _ ?_⟩
     refine Rk 29 3 ((tB 81 (!x78))::(BC x47 bh bi x41 bp bq br x34 bt)) aak k8 fun uz se=>?_
     rcases Bool.eq_false_or_eq_true ((!x78)) with kx | kx
     ·
      rw [kx,QW] at H
      have aal:Kn 238 (Ig a f g l m p q) ((tB 81 true)::(BC x47 bh bi x41 bp bq br x34 bt)) uz:=(se.setB 81 true (by rfl) kx).kp
      refine Rk 32 27 [tB 108 true,tP 1 0 0] aal k8 fun alq sf=>?_
      refine wf ?_
      have td:Ah ⟨w,h,Az⟩ jw (Ig a f g l m p q) [⟨B8 z aa ab,some 76⟩,⟨[.slice cg x59.length ch],none⟩,⟨[.slice cp x67.length ct],none⟩,⟨[.slice cy x75.length c2],none⟩] (G1 z aa aj ak y ab) aim:=k8.cutRw 6
      refine wC true sf (fun hb=>?_) (fun hb=>?_)
      rotate_left
      ·
       cases hb
      refine QT (Ab (Rk 0 1 [tB 0 false] sf td fun alr aam=>?_))
      refine wf (wp_ret ?_)
      exact rt (.one (.c (.bool false))) aam td ⟨_,H,rfl⟩
     ·
      rw [kx,QV] at H
      have aan:Kn 238 (Ig a f g l m p q) ((tB 81 false)::(BC x47 bh bi x41 bp bq br x34 bt)) uz:=(se.setB 81 false (by rfl) kx).kp
      refine Rk 32 1 [tS 82 br x34.1.length bt,tB 81 false,tI 7 x47.2,tS 6 bh x47.1.length bi,tI 5 x41.2,tS 4 bp x41.1.length bq,tP 1 0 0] aan k8 fun als sg=>?_
      obtain⟨x83,ex83,H⟩:=H
      obtain⟨ad6,aeb,afz⟩:=Ak ex83
      obtain⟨s,u,ai1,wz,afq,w4⟩:=gv.get (by decide) afz
      obtain⟨c4,c5,rfl,hn⟩:=afq
      have te:=k8.addPlc (b:=s) (o:=u+(3:Int).toNat*1) (cs:=[.slice c4 x83.length c5]) (fun j c hj=>w4 j _ (Al hj)) rfl (by kernel_rfl) (by kernel_rfl)
      refine A6 33 (3) rfl rfl (Ai sg (by kernel_rfl)) rfl (by decide) sg (by rfl) (by rfl) (by rfl) wz (by rfl) ad6 aeb (by kernel_rfl) fun ahg (aao:Kn 238 (BP a f g l m p q s u) [tP 83 4 0,tS 82 br x34.1.length bt,tB 81 false,tI 7 x47.2,tS 6 bh x47.1.length bi,tI 5 x41.2,tS 4 bp x41.1.length bq,tP 1 0 0] ahg)=>?_
      refine Rk 34 1 [tS 84 c4 x83.length c5,tB 81 false,tI 7 x47.2,tS 6 bh x47.1.length bi,tI 5 x41.2,tS 4 bp x41.1.length bq,tP 1 0 0] aao te fun alt sh=>?_
      refine Aq _ rfl (Ai sh (by kernel_rfl)) fun K hK=>?_
      refine wS 3 1 [.int .i64 0,.int .i64 30,.int .i64 45,.int .i64 50] sh te fun h0 ahh ain (si:Kn 238 (BP a f g l m p q s u) [tS 85 h0 4 4,tS 84 c4 x83.length c5,tB 81 false,tI 7 x47.2,tS 6 bh x47.1.length bi,tI 5 x41.2,tS 4 bp x41.1.length bq,tP 1 0 0] ahh) tf=>?_
      have iw:Af jw ([0,30,45,50]:List Int) ([.int .i64 0,.int .i64 30,.int .i64 45,.int .i64 50]:List Value):=⟨_,_,rfl,(Ac:rep jw (0:Int) _),⟨_,_,rfl,(Ac:rep jw (30:Int) _),⟨_,_,rfl,(Ac:rep jw (45:Int) _),⟨_,_,rfl,(Ac:rep jw (50:Int) _),rfl⟩⟩⟩⟩
      refine hK _ _ ?_
      obtain⟨qq,dr,ae3,m6⟩:=tf.settle (i:=9) rfl
      replace hn:=hn.mono dr
      replace iw:=iw.mono dr
      replace m6:Ah ⟨w,h,Az⟩ qq (BP a f g l m p q s u) (FO z aa ab cg x59 ch cp x67 ct cy x75 c2 c4 x83 c5) [⟨z,2,2,3,1,([.int .i64 0,.int .i64 15]:List Value),2⟩,⟨aa,2,2,3,1,([.int .i64 0,.int .i64 0]:List Value),2⟩,⟨aj,3,3,3,1,([.int .i64 10,.int .i64 10,.int .i64 10]:List Value),3⟩,⟨ak,3,3,3,1,([.int .i64 10,.int .i64 10,.int .i64 10]:List Value),3⟩,⟨y,3,3,3,1,([.int .i64 10,.int .i64 10,.int .i64 10]:List Value),3⟩,⟨ab,3,3,31,1,([.slice aj 3 3,.slice ak 3 3,.slice y 3 3]:List Value),3⟩,⟨g7,3,3,3,1,([.int .i64 0,.int .i64 15,.int .i64 50]:List Value),3⟩,⟨g9,4,4,3,1,([.int .i64 0,.int .i64 10,.int .i64 25,.int .i64 50]:List Value),4⟩,⟨ho,4,4,3,1,([.int .i64 0,.int .i64 20,.int .i64 35,.int .i64 50]:List Value),4⟩,⟨h0,4,4,3,1,([.int .i64 0,.int .i64 30,.int .i64 45,.int .i64 50]:List Value),4⟩] ain:=m6
      have i4:Ar qq h0 4 ([0,30,45,50]:List Int):=⟨_,iw,ae3,tf.rowCap (i:=9) rfl⟩
      obtain⟨x86,ex86,H⟩:=H
      refine Aq _ rfl (Ai si (by kernel_rfl)) fun K hK=>?_
      refine wc [.c (.slice c4 x83.length c5),.c (.slice h0 4 4)] si m6 (Cy n m6.has x83 hn ([0,30,45,50]:List Int) i4 ex86) fun am9 iu u7 v1 dn hq=>?_
      replace es:=es.mono (QU dr dn)
      replace et:=et.mono (QU dr dn)
      replace fe:=fe.mono (QU dr dn)
      replace ee:=ee.mono (QU dr dn)
      replace ef:=ef.mono (QU dr dn)
      replace ek:=ek.mono (QU dr dn)
      replace f8:=f8.mono (QU dr dn)
      replace f9:=f9.mono (QU dr dn)
      replace fd:=fd.mono (QU dr dn)
      replace ga:=ga.mono (QU dr dn)
      replace gb:=gb.mono (QU dr dn)
      replace g5:=g5.mono (QU dr dn)
      replace g6:=g6.mono (QU dr dn)
      replace hl:=hl.mono (QU dr dn)
      replace hn:=hn.mono dn
      replace i4:=i4.mono dn
      replace ec:=ec.mono (QU dr dn)
      replace d8:=d8.mono (QU dr dn)
      replace d9:=d9.mono (QU dr dn)
      replace ea:=ea.mono (QU dr dn)
      replace eb:=eb.mono (QU dr dn)
      replace el:=el.mono (QU dr dn)
      replace fv:=fv.mono (QU dr dn)
      replace gy:=gy.mono (QU dr dn)
      replace ha:=ha.mono (QU dr dn)
      replace iw:=iw.mono dn
      obtain rfl:=v1
      refine⟨.one (.c (.bool x86)),rfl,fun ahi (aap:Kn 238 (BP a f g l m p q s u) [tB 86 x86,tS 85 h0 4 4,tS 84 c4 x83.length c5,tB 81 false,tI 7 x47.2,tS 6 bh x47.1.length bi,tI 5 x41.2,tS 4 bp x41.1.length bq,tP 1 0 0] ahi)=>hK _ _ ?_⟩
      refine Rk 37 3 [tB 89 (!x86),tI 7 x47.2,tS 6 bh x47.1.length bi,tI 5 x41.2,tS 4 bp x41.1.length bq,tP 1 0 0] aap hq fun u0 sj=>?_
      rcases Bool.eq_false_or_eq_true ((!x86)) with ky | ky
      ·
       rw [ky,QW] at H
       have aaq:Kn 238 (BP a f g l m p q s u) [tB 89 true,tI 7 x47.2,tS 6 bh x47.1.length bi,tI 5 x41.2,tS 4 bp x41.1.length bq,tP 1 0 0] u0:=(sj.setB 89 true (by rfl) ky).kp
       refine Rk 40 19 [tB 108 true,tP 1 0 0] aaq hq fun alu sk=>?_
       refine wf ?_
       have tg:Ah ⟨w,h,Az⟩ iu (BP a f g l m p q s u) (FO z aa ab cg x59 ch cp x67 ct cy x75 c2 c4 x83 c5) (G1 z aa aj ak y ab) u7:=hq.cutRw 6
       refine wC true sk (fun hb=>?_) (fun hb=>?_)
       rotate_left
       ·
        cases hb
       refine QT (Ab (Rk 0 1 [tB 0 false] sk tg fun alv aar=>?_))
       refine wf (wp_ret ?_)
       exact rt (.one (.c (.bool false))) aar tg ⟨_,H,rfl⟩
      ·
       rw [ky,QV] at H
       have aas:Kn 238 (BP a f g l m p q s u) [tB 89 false,tI 7 x47.2,tS 6 bh x47.1.length bi,tI 5 x41.2,tS 4 bp x41.1.length bq,tP 1 0 0] u0:=(sj.setB 89 false (by rfl) ky).kp
       refine Rk 40 4 [tB 93 (x41.2 != 0),tI 7 x47.2,tS 6 bh x47.1.length bi,tS 4 bp x41.1.length bq,tP 1 0 0] aas hq fun u1 sl=>?_
       rcases Bool.eq_false_or_eq_true ((x41.2 != 0)) with kz | kz
       ·
        rw [kz,QW] at H
        have aat:Kn 238 (BP a f g l m p q s u) [tB 93 true,tI 7 x47.2,tS 6 bh x47.1.length bi,tS 4 bp x41.1.length bq,tP 1 0 0] u1:=(sl.setB 93 true (by rfl) kz).kp
        refine Rk 44 15 [tB 108 true,tP 1 0 0] aat hq fun alw sm=>?_
        refine wf ?_
        have th:Ah ⟨w,h,Az⟩ iu (BP a f g l m p q s u) (FO z aa ab cg x59 ch cp x67 ct cy x75 c2 c4 x83 c5) (G1 z aa aj ak y ab) u7:=hq.cutRw 6
        refine wC true sm (fun hb=>?_) (fun hb=>?_)
        rotate_left
        ·
         cases hb
        refine QT (Ab (Rk 0 1 [tB 0 false] sm th fun alx aau=>?_))
        refine wf (wp_ret ?_)
        exact rt (.one (.c (.bool false))) aau th ⟨_,H,rfl⟩
       ·
        rw [kz,QV] at H
        have aav:Kn 238 (BP a f g l m p q s u) [tB 93 false,tI 7 x47.2,tS 6 bh x47.1.length bi,tS 4 bp x41.1.length bq,tP 1 0 0] u1:=(sl.setB 93 false (by rfl) kz).kp
        refine Rk 44 1 [tS 94 bp x41.1.length bq,tB 93 false,tI 7 x47.2,tS 6 bh x47.1.length bi,tP 1 0 0] aav hq fun aly sn=>?_
        refine Aq _ rfl (Ai sn (by kernel_rfl)) fun K hK=>?_
        refine wS 3 1 [.int .i64 35,.int .i64 25,.int .i64 20,.int .i64 30] sn hq fun i5 ahj aio (sp:Kn 238 (BP a f g l m p q s u) [tS 95 i5 4 4,tS 94 bp x41.1.length bq,tB 93 false,tI 7 x47.2,tS 6 bh x47.1.length bi,tP 1 0 0] ahj) ti=>?_
        have k2:Af iu ([35,25,20,30]:List Int) ([.int .i64 35,.int .i64 25,.int .i64 20,.int .i64 30]:List Value):=⟨_,_,rfl,(Ac:rep iu (35:Int) _),⟨_,_,rfl,(Ac:rep iu (25:Int) _),⟨_,_,rfl,(Ac:rep iu (20:Int) _),⟨_,_,rfl,(Ac:rep iu (30:Int) _),rfl⟩⟩⟩⟩
        refine hK _ _ ?_
        obtain⟨qr,dj,ae5,m7⟩:=ti.settle (i:=10) rfl
        replace f8:=f8.mono dj
        replace k2:=k2.mono dj
        replace m7:Ah ⟨w,h,Az⟩ qr (BP a f g l m p q s u) (FO z aa ab cg x59 ch cp x67 ct cy x75 c2 c4 x83 c5) [⟨z,2,2,3,1,([.int .i64 0,.int .i64 15]:List Value),2⟩,⟨aa,2,2,3,1,([.int .i64 0,.int .i64 0]:List Value),2⟩,⟨aj,3,3,3,1,([.int .i64 10,.int .i64 10,.int .i64 10]:List Value),3⟩,⟨ak,3,3,3,1,([.int .i64 10,.int .i64 10,.int .i64 10]:List Value),3⟩,⟨y,3,3,3,1,([.int .i64 10,.int .i64 10,.int .i64 10]:List Value),3⟩,⟨ab,3,3,31,1,([.slice aj 3 3,.slice ak 3 3,.slice y 3 3]:List Value),3⟩,⟨g7,3,3,3,1,([.int .i64 0,.int .i64 15,.int .i64 50]:List Value),3⟩,⟨g9,4,4,3,1,([.int .i64 0,.int .i64 10,.int .i64 25,.int .i64 50]:List Value),4⟩,⟨ho,4,4,3,1,([.int .i64 0,.int .i64 20,.int .i64 35,.int .i64 50]:List Value),4⟩,⟨h0,4,4,3,1,([.int .i64 0,.int .i64 30,.int .i64 45,.int .i64 50]:List Value),4⟩,⟨i5,4,4,3,1,([.int .i64 35,.int .i64 25,.int .i64 20,.int .i64 30]:List Value),4⟩] aio:=m7
        have lf:Ar qr i5 4 ([35,25,20,30]:List Int):=⟨_,k2,ae5,ti.rowCap (i:=10) rfl⟩
        obtain⟨x96,ex96,H⟩:=H
        refine Aq _ rfl (Ai sp (by kernel_rfl)) fun K hK=>?_
        refine wc [.c (.slice bp x41.1.length bq),.c (.slice i5 4 4)] sp m7 (Cy n m7.has x41.1 f8 ([35,25,20,30]:List Int) lf ex96) fun ana iv u8 v2 dk hr=>?_
        replace es:=es.mono (QU dj dk)
        replace et:=et.mono (QU dj dk)
        replace fe:=fe.mono (QU dj dk)
        replace ee:=ee.mono (QU dj dk)
        replace ef:=ef.mono (QU dj dk)
        replace ek:=ek.mono (QU dj dk)
        replace f9:=f9.mono (QU dj dk)
        replace fd:=fd.mono (QU dj dk)
        replace ga:=ga.mono (QU dj dk)
        replace gb:=gb.mono (QU dj dk)
        replace g5:=g5.mono (QU dj dk)
        replace g6:=g6.mono (QU dj dk)
        replace hl:=hl.mono (QU dj dk)
        replace hn:=hn.mono (QU dj dk)
        replace i4:=i4.mono (QU dj dk)
        replace lf:=lf.mono dk
        replace ec:=ec.mono (QU dj dk)
        replace d8:=d8.mono (QU dj dk)
        replace d9:=d9.mono (QU dj dk)
        replace ea:=ea.mono (QU dj dk)
        replace eb:=eb.mono (QU dj dk)
        replace el:=el.mono (QU dj dk)
        replace fv:=fv.mono (QU dj dk)
        replace gy:=gy.mono (QU dj dk)
        replace ha:=ha.mono (QU dj dk)
        replace iw:=iw.mono (QU dj dk)
        replace k2:=k2.mono dk
        obtain rfl:=v2
        refine⟨.one (.c (.bool x96)),rfl,fun ahk (aaw:Kn 238 (BP a f g l m p q s u) [tB 96 x96,tS 95 i5 4 4,tS 94 bp x41.1.length bq,tB 93 false,tI 7 x47.2,tS 6 bh x47.1.length bi,tP 1 0 0] ahk)=>hK _ _ ?_⟩
        refine Rk 47 3 [tB 99 (!x96),tI 7 x47.2,tS 6 bh x47.1.length bi,tP 1 0 0] aaw hr fun u2 sq=>?_
        rcases Bool.eq_false_or_eq_true ((!x96)) with k0 | k0
        ·
         rw [k0,QW] at H
         have aax:Kn 238 (BP a f g l m p q s u) [tB 99 true,tI 7 x47.2,tS 6 bh x47.1.length bi,tP 1 0 0] u2:=(sq.setB 99 true (by rfl) k0).kp
         refine Rk 50 9 [tB 108 true,tP 1 0 0] aax hr fun alz sr=>?_
         refine wf ?_
         have tj:Ah ⟨w,h,Az⟩ iv (BP a f g l m p q s u) (FO z aa ab cg x59 ch cp x67 ct cy x75 c2 c4 x83 c5) (G1 z aa aj ak y ab) u8:=hr.cutRw 6
         refine wC true sr (fun hb=>?_) (fun hb=>?_)
         rotate_left
         ·
          cases hb
         refine QT (Ab (Rk 0 1 [tB 0 false] sr tj fun al0 aay=>?_))
         refine wf (wp_ret ?_)
         exact rt (.one (.c (.bool false))) aay tj ⟨_,H,rfl⟩
        ·
         rw [k0,QV] at H
         have aaz:Kn 238 (BP a f g l m p q s u) [tB 99 false,tI 7 x47.2,tS 6 bh x47.1.length bi,tP 1 0 0] u2:=(sq.setB 99 false (by rfl) k0).kp
         refine Rk 50 4 [tB 103 (x47.2 != 0),tS 6 bh x47.1.length bi,tP 1 0 0] aaz hr fun u3 ss=>?_
         rcases Bool.eq_false_or_eq_true ((x47.2 != 0)) with k1 | k1
         ·
          rw [k1,QW] at H
          have aa0:Kn 238 (BP a f g l m p q s u) [tB 103 true,tS 6 bh x47.1.length bi,tP 1 0 0] u3:=(ss.setB 103 true (by rfl) k1).kp
          refine Rk 54 5 [tB 108 true,tP 1 0 0] aa0 hr fun al1 st=>?_
          refine wf ?_
          have tk:Ah ⟨w,h,Az⟩ iv (BP a f g l m p q s u) (FO z aa ab cg x59 ch cp x67 ct cy x75 c2 c4 x83 c5) (G1 z aa aj ak y ab) u8:=hr.cutRw 6
          refine wC true st (fun hb=>?_) (fun hb=>?_)
          rotate_left
          ·
           cases hb
          refine QT (Ab (Rk 0 1 [tB 0 false] st tk fun al2 aa1=>?_))
          refine wf (wp_ret ?_)
          exact rt (.one (.c (.bool false))) aa1 tk ⟨_,H,rfl⟩
         ·
          rw [k1,QV] at H
          have aa2:Kn 238 (BP a f g l m p q s u) [tB 103 false,tS 6 bh x47.1.length bi,tP 1 0 0] u3:=(ss.setB 103 false (by rfl) k1).kp
          refine Rk 54 1 [tS 104 bh x47.1.length bi,tB 103 false,tP 1 0 0] aa2 hr fun al3 su=>?_
          refine Aq _ rfl (Ai su (by kernel_rfl)) fun K hK=>?_
          refine wS 3 1 [.int .i64 35,.int .i64 25,.int .i64 35,.int .i64 37] su hr fun kd ahl aip (sv:Kn 238 (BP a f g l m p q s u) [tS 105 kd 4 4,tS 104 bh x47.1.length bi,tB 103 false,tP 1 0 0] ahl) tl=>?_
          have n3:Af iv ([35,25,35,37]:List Int) ([.int .i64 35,.int .i64 25,.int .i64 35,.int .i64 37]:List Value):=⟨_,_,rfl,(Ac:rep iv (35:Int) _),⟨_,_,rfl,(Ac:rep iv (25:Int) _),⟨_,_,rfl,(Ac:rep iv (35:Int) _),⟨_,_,rfl,(Ac:rep iv (37:Int) _),rfl⟩⟩⟩⟩
          refine hK _ _ ?_
          obtain⟨qs,dy,ae6,m8⟩:=tl.settle (i:=11) rfl
          replace f9:=f9.mono dy
          replace n3:=n3.mono dy
          replace m8:Ah ⟨w,h,Az⟩ qs (BP a f g l m p q s u) (FO z aa ab cg x59 ch cp x67 ct cy x75 c2 c4 x83 c5) [⟨z,2,2,3,1,([.int .i64 0,.int .i64 15]:List Value),2⟩,⟨aa,2,2,3,1,([.int .i64 0,.int .i64 0]:List Value),2⟩,⟨aj,3,3,3,1,([.int .i64 10,.int .i64 10,.int .i64 10]:List Value),3⟩,⟨ak,3,3,3,1,([.int .i64 10,.int .i64 10,.int .i64 10]:List Value),3⟩,⟨y,3,3,3,1,([.int .i64 10,.int .i64 10,.int .i64 10]:List Value),3⟩,⟨ab,3,3,31,1,([.slice aj 3 3,.slice ak 3 3,.slice y 3 3]:List Value),3⟩,⟨g7,3,3,3,1,([.int .i64 0,.int .i64 15,.int .i64 50]:List Value),3⟩,⟨g9,4,4,3,1,([.int .i64 0,.int .i64 10,.int .i64 25,.int .i64 50]:List Value),4⟩,⟨ho,4,4,3,1,([.int .i64 0,.int .i64 20,.int .i64 35,.int .i64 50]:List Value),4⟩,⟨h0,4,4,3,1,([.int .i64 0,.int .i64 30,.int .i64 45,.int .i64 50]:List Value),4⟩,⟨i5,4,4,3,1,([.int .i64 35,.int .i64 25,.int .i64 20,.int .i64 30]:List Value),4⟩,⟨kd,4,4,3,1,([.int .i64 35,.int .i64 25,.int .i64 35,.int .i64 37]:List Value),4⟩] aip:=m8
          have o2:Ar qs kd 4 ([35,25,35,37]:List Int):=⟨_,n3,ae6,tl.rowCap (i:=11) rfl⟩
          obtain⟨x106,ex106,H⟩:=H
          refine Aq _ rfl (Ai sv (by kernel_rfl)) fun K hK=>?_
          refine wc [.c (.slice bh x47.1.length bi),.c (.slice kd 4 4)] sv m8 (Cy n m8.has x47.1 f9 ([35,25,35,37]:List Int) o2 ex106) fun anb wt aiq v3 d2 tn=>?_
          replace es:=es.mono (QU dy d2)
          replace et:=et.mono (QU dy d2)
          replace fe:=fe.mono (QU dy d2)
          replace ee:=ee.mono (QU dy d2)
          replace ef:=ef.mono (QU dy d2)
          replace ek:=ek.mono (QU dy d2)
          replace fd:=fd.mono (QU dy d2)
          replace ga:=ga.mono (QU dy d2)
          replace gb:=gb.mono (QU dy d2)
          replace g5:=g5.mono (QU dy d2)
          replace g6:=g6.mono (QU dy d2)
          replace hl:=hl.mono (QU dy d2)
          replace hn:=hn.mono (QU dy d2)
          replace i4:=i4.mono (QU dy d2)
          replace lf:=lf.mono (QU dy d2)
          replace o2:=o2.mono d2
          replace ec:=ec.mono (QU dy d2)
          replace d8:=d8.mono (QU dy d2)
          replace d9:=d9.mono (QU dy d2)
          replace ea:=ea.mono (QU dy d2)
          replace eb:=eb.mono (QU dy d2)
          replace el:=el.mono (QU dy d2)
          obtain rfl:=v3
          refine⟨.one (.c (.bool x106)),rfl,fun ahn (aa3:Kn 238 (BP a f g l m p q s u) [tB 106 x106,tS 105 kd 4 4,tS 104 bh x47.1.length bi,tB 103 false,tP 1 0 0] ahn)=>hK _ _ ?_⟩
          refine Rk 57 2 [tB 108 (!x106),tP 1 0 0] aa3 tn fun al4 n4=>?_
          refine wf ?_
          have m9:Ah ⟨w,h,Az⟩ wt (BP a f g l m p q s u) (FO z aa ab cg x59 ch cp x67 ct cy x75 c2 c4 x83 c5) (G1 z aa aj ak y ab) aiq:=tn.cutRw 6
          refine wC ((!x106)) n4 (fun n2=>?_) (fun n2=>?_)
          ·
           rw [n2,QW] at H
           refine QT (Ab (Rk 0 1 [tB 0 false] n4 m9 fun al5 aa5=>?_))
           refine wf (wp_ret ?_)
           exact rt (.one (.c (.bool false))) aa5 m9 ⟨_,H,rfl⟩
          ·
           rw [n2,QV] at H
           refine wp_skip (QT (Ab ?_))
           obtain⟨x109,ex109,H⟩:=H
           refine wl fun K hK=>?_
           refine C4 [] _ n4 m9 rfl rfl (by decide) (by rfl) rfl (fun _ _=>by kernel_rfl) (II n m9.has  ex109) fun anc wu air akg v4 k4 na=>?_
           obtain⟨ap,aq,a1,ar,av,bu,au,aw,bw,rfl,rfl,j0,j1,j2⟩:=v4
           replace na:Ah ⟨w,h,Az⟩ wu (BP a f g l m p q s u) (FO z aa ab cg x59 ch cp x67 ct cy x75 c2 c4 x83 c5) [⟨z,2,2,3,1,([.int .i64 0,.int .i64 15]:List Value),2⟩,⟨aa,2,2,3,1,([.int .i64 0,.int .i64 0]:List Value),2⟩,⟨aj,3,3,3,1,([.int .i64 10,.int .i64 10,.int .i64 10]:List Value),3⟩,⟨ak,3,3,3,1,([.int .i64 10,.int .i64 10,.int .i64 10]:List Value),3⟩,⟨y,3,3,3,1,([.int .i64 10,.int .i64 10,.int .i64 10]:List Value),3⟩,⟨ab,3,3,31,1,([.slice aj 3 3,.slice ak 3 3,.slice y 3 3]:List Value),3⟩,⟨ap,x109.holds.length,aq,3,1,a1,0⟩,⟨ar,x109.turns.length,av,3,1,bu,0⟩,⟨au,x109.spares.length,aw,4,1,bw,0⟩] air:=na
           refine⟨.one (.agg (IM ap x109 aq ar av au aw)),rfl,fun aho (aa6:Kn 238 (BP a f g l m p q s u) [tA 109 (IM ap x109 aq ar av au aw),tB 108 (!x106),tP 1 0 0] aho)=>hK _ _ ?_⟩
           obtain⟨x110,ex110,H⟩:=H
           refine wl fun K hK=>?_
           refine C4 [] _ aa6 na rfl rfl (by decide) (by rfl) rfl (fun _ _=>by kernel_rfl) (II n na.has  ex110) fun ane wv ais akh v5 hp nb=>?_
           obtain⟨al,an,a6,ah,ai,d,am,ao,bd,rfl,rfl,j3,j4,j5⟩:=v5
           replace nb:Ah ⟨w,h,Az⟩ wv (BP a f g l m p q s u) (FO z aa ab cg x59 ch cp x67 ct cy x75 c2 c4 x83 c5) [⟨z,2,2,3,1,([.int .i64 0,.int .i64 15]:List Value),2⟩,⟨aa,2,2,3,1,([.int .i64 0,.int .i64 0]:List Value),2⟩,⟨aj,3,3,3,1,([.int .i64 10,.int .i64 10,.int .i64 10]:List Value),3⟩,⟨ak,3,3,3,1,([.int .i64 10,.int .i64 10,.int .i64 10]:List Value),3⟩,⟨y,3,3,3,1,([.int .i64 10,.int .i64 10,.int .i64 10]:List Value),3⟩,⟨ab,3,3,31,1,([.slice aj 3 3,.slice ak 3 3,.slice y 3 3]:List Value),3⟩,⟨ap,x109.holds.length,aq,3,1,a1,0⟩,⟨ar,x109.turns.length,av,3,1,bu,0⟩,⟨au,x109.spares.length,aw,4,1,bw,0⟩,⟨al,x110.holds.length,an,3,1,a6,0⟩,⟨ah,x110.turns.length,ai,3,1,d,0⟩,⟨am,x110.spares.length,ao,4,1,bd,0⟩] ais:=nb
           refine⟨.one (.agg (Hr al x110 an ah ai am ao)),rfl,fun ahp (aa8:Kn 238 (BP a f g l m p q s u) [tA 110 (Hr al x110 an ah ai am ao),tA 109 (IM ap x109 aq ar av au aw),tB 108 (!x106),tP 1 0 0] ahp)=>hK _ _ ?_⟩
           obtain⟨x111,ex111,H⟩:=H
           refine wl fun K hK=>?_
           refine wc [] aa8 nb (Eo n nb.has  ex111) fun anf jy aor v6 gz adk=>?_
           replace j0:=j0.mono (QU hp gz)
           replace j4:=j4.mono gz
           obtain⟨_,rfl,⟨_,_,rfl,⟨a9,bb,rfl,o3⟩,⟨_,_,rfl,⟨ba,bc,rfl,o4⟩,⟨gw,gx,rfl,aj9⟩⟩⟩⟩:=v6
           refine⟨.one (.agg (Ie a9 x111 bb ba bc gw gx)),rfl,fun ahq (aa9:Kn 238 (BP a f g l m p q s u) [tA 111 (Ie a9 x111 bb ba bc gw gx),tA 110 (Hr al x110 an ah ai am ao),tA 109 (IM ap x109 aq ar av au aw),tB 108 (!x106),tP 1 0 0] ahq)=>hK _ _ ?_⟩
           refine wl fun K hK=>?_
           refine wa Ly aa9 adk fun ac ahr aos (aba:Kn 238 [(a,0),(f,g+(0:Int).toNat*1),(l,m+(1:Int).toNat*1),(p,q+(2:Int).toNat*1),(s,u+(3:Int).toNat*1),(ac,0)] [tP 8 5 0,tA 111 (Ie a9 x111 bb ba bc gw gx),tA 110 (Hr al x110 an ah ai am ao),tA 109 (IM ap x109 aq ar av au aw),tB 108 (!x106),tP 1 0 0] ahr) adl=>hK _ _ ?_
           refine wl fun K hK=>?_
           refine wa Ly aba adl fun ad ahs aot (abb:Kn 238 [(a,0),(f,g+(0:Int).toNat*1),(l,m+(1:Int).toNat*1),(p,q+(2:Int).toNat*1),(s,u+(3:Int).toNat*1),(ac,0),(ad,0)] [tP 9 6 0,tP 8 5 0,tA 111 (Ie a9 x111 bb ba bc gw gx),tA 110 (Hr al x110 an ah ai am ao),tA 109 (IM ap x109 aq ar av au aw),tB 108 (!x106),tP 1 0 0] ahs) adm=>hK _ _ ?_
           refine wl fun K hK=>?_
           refine wa Ly abb adm fun ae u5 aov (abc:Kn 238 [(a,0),(f,g+(0:Int).toNat*1),(l,m+(1:Int).toNat*1),(p,q+(2:Int).toNat*1),(s,u+(3:Int).toNat*1),(ac,0),(ad,0),(ae,0)] [tP 10 7 0,tP 9 6 0,tP 8 5 0,tA 111 (Ie a9 x111 bb ba bc gw gx),tA 110 (Hr al x110 an ah ai am ao),tA 109 (IM ap x109 aq ar av au aw),tB 108 (!x106),tP 1 0 0] u5) adn=>hK _ _ ?_
           refine wl fun K hK=>?_
           refine Ea 5 0 (.agg (IM ap x109 aq ar av au aw)) (IM ap x109 aq ar av au aw) abc adn fun aow abd ado=>hK _ _ ?_
           refine wl fun K hK=>?_
           refine Ea 6 0 (.agg (Hr al x110 an ah ai am ao)) (Hr al x110 an ah ai am ao) abd ado fun aox abf adp=>hK _ _ ?_
           refine wl fun K hK=>?_
           refine Ea 7 0 (.agg (Ie a9 x111 bb ba bc gw gx)) (Ie a9 x111 bb ba bc gw gx) abf adp fun aoy abg oj=>hK _ _ ?_
           have abh:Kn 238 [(a,0),(f,g+(0:Int).toNat*1),(l,m+(1:Int).toNat*1),(p,q+(2:Int).toNat*1),(s,u+(3:Int).toNat*1),(ac,0),(ad,0),(ae,0)] [tP 10 7 0,tP 9 6 0,tP 8 5 0,tP 1 0 0] u5:=abg.kp
           refine wf (QT (Ab (Rk 0 2 [tS 113 ap x109.holds.length aq,tP 10 7 0,tP 9 6 0,tP 8 5 0,tP 1 0 0] abh oj fun al7 abi=>?_)))
           obtain⟨x114,ex114,H⟩:=H
           obtain⟨tx,t3,af0⟩:=Ak ex114
           have n6:=AX tx t3
           obtain⟨ai2,afr,w5⟩:=Dc (sz:=1) rfl j0 af0
           obtain rfl:=afr
           obtain⟨af,q5⟩:=Bo oj (i:=6) rfl (b0:=0+(0:Int).toNat*1) (Nat.lt_of_lt_of_le (Nat.lt_add_of_pos_right (by decide)) (Bk (sz:=1) rfl j0 n6))
           have adr:=oj.addPlc (b:=af) (o:=0+(0:Int).toNat*1) (cs:=[]) (fun j c hj=>by simp at hj) rfl (by kernel_rfl) (by kernel_rfl)
           have ajr:∀ (e:AG) k c,([.int .i64 x114]:List SC)[k]? = some c→(a1)[0+(0:Int).toNat*1+k]? = some (c.den e):=fun e k c hk=>w5 k _ (Al hk)
           refine A6 2 (0) rfl rfl (rfl) rfl (by decide) abi (by rfl) (by rfl) (by rfl) q5 (by rfl) tx t3 (by kernel_rfl) fun pw (abk:Kn 238 [(a,0),(f,g+(0:Int).toNat*1),(l,m+(1:Int).toNat*1),(p,q+(2:Int).toNat*1),(s,u+(3:Int).toNat*1),(ac,0),(ad,0),(ae,0),(af,0+(0:Int).toNat*1)] [tP 114 8 0,tS 113 ap x109.holds.length aq,tP 10 7 0,tP 9 6 0,tP 8 5 0,tP 1 0 0] pw)=>?_
           obtain⟨ay,va,H⟩:=H
           obtain⟨ajy,aj4,ub⟩:=Cm va
           refine wl fun K hK=>?_
           refine BO 6 8 0 (0+(0:Int).toNat*1) (.c (.int .i64 3)) abk adr rfl rfl (by rfl) (by rfl) rfl rfl q5 rfl (by kernel_rfl) (Bk (sz:=1) rfl j0 n6) fun ait abl ads=>?_
           have j6:Af jy ay (a1.take (0+(0:Int).toNat*1+0)++([.int .i64 3]:List Value)++a1.drop (0+(0:Int).toNat*1+0+1)):=by rw [ub]; exact Em (sz:=1) rfl j0 n6 (Ac:rep jy (3:Int) _)
           have ts:x109.holds.length=ay.length:=by rw [ub]; simp
           have abn:Kn 238 [(a,0),(f,g+(0:Int).toNat*1),(l,m+(1:Int).toNat*1),(p,q+(2:Int).toNat*1),(s,u+(3:Int).toNat*1),(ac,0),(ad,0),(ae,0),(af,0+(0:Int).toNat*1)] [(114,.one (.c (.ptr 8 0))),(113,.one (.c (.slice ap ay.length aq))),(10,.one (.c (.ptr 7 0))),(9,.one (.c (.ptr 6 0))),(8,.one (.c (.ptr 5 0))),(1,.one (.c (.ptr 0 0)))] pw:=by rw [← ts]; exact abl
           have ok:Ah ⟨w,h,Az⟩ jy [(a,0),(f,g+(0:Int).toNat*1),(l,m+(1:Int).toNat*1),(p,q+(2:Int).toNat*1),(s,u+(3:Int).toNat*1),(ac,0),(ad,0),(ae,0),(af,0+(0:Int).toNat*1)] [⟨[.slice z 2 2,.slice aa 2 2,.slice ab 3 3],some 76⟩,⟨[.slice cg x59.length ch],none⟩,⟨[.slice cp x67.length ct],none⟩,⟨[.slice cy x75.length c2],none⟩,⟨[.slice c4 x83.length c5],none⟩,⟨[.slice ap ay.length aq,.slice ar x109.turns.length av,.slice au x109.spares.length aw],some 34⟩,⟨[.slice al x110.holds.length an,.slice ah x110.turns.length ai,.slice am x110.spares.length ao],some 34⟩,⟨[.slice a9 x111.holds.length bb,.slice ba x111.turns.length bc,.slice gw x111.spares.length gx],some 34⟩,⟨[],none⟩] [⟨z,2,2,3,1,([.int .i64 0,.int .i64 15]:List Value),2⟩,⟨aa,2,2,3,1,([.int .i64 0,.int .i64 0]:List Value),2⟩,⟨aj,3,3,3,1,([.int .i64 10,.int .i64 10,.int .i64 10]:List Value),3⟩,⟨ak,3,3,3,1,([.int .i64 10,.int .i64 10,.int .i64 10]:List Value),3⟩,⟨y,3,3,3,1,([.int .i64 10,.int .i64 10,.int .i64 10]:List Value),3⟩,⟨ab,3,3,31,1,([.slice aj 3 3,.slice ak 3 3,.slice y 3 3]:List Value),3⟩,⟨ap,ay.length,aq,3,1,a1.take (0+(0:Int).toNat*1+0)++([.int .i64 3]:List Value)++a1.drop (0+(0:Int).toNat*1+0+1),0⟩,⟨ar,x109.turns.length,av,3,1,bu,0⟩,⟨au,x109.spares.length,aw,4,1,bw,0⟩,⟨al,x110.holds.length,an,3,1,a6,0⟩,⟨ah,x110.turns.length,ai,3,1,d,0⟩,⟨am,x110.spares.length,ao,4,1,bd,0⟩] ait:=by rw [← ts]; exact ads
           refine hK _ _ ?_
           have abo:Kn 238 [(a,0),(f,g+(0:Int).toNat*1),(l,m+(1:Int).toNat*1),(p,q+(2:Int).toNat*1),(s,u+(3:Int).toNat*1),(ac,0),(ad,0),(ae,0),(af,0+(0:Int).toNat*1)] [tP 10 7 0,tP 9 6 0,tP 8 5 0,tP 1 0 0] pw:=abn.kp
           refine wf (QT (Ab (Rk 0 2 [tS 116 ah x110.turns.length ai,tP 10 7 0,tP 9 6 0,tP 8 5 0,tP 1 0 0] abo ok fun al8 abp=>?_)))
           obtain⟨x117,ex117,H⟩:=H
           obtain⟨ty,t4,af1⟩:=Ak ex117
           have n7:=AX ty t4
           obtain⟨ai3,afs,w6⟩:=Dc (sz:=1) rfl j4 af1
           obtain rfl:=afs
           obtain⟨ag,q6⟩:=Bo ok (i:=10) rfl (b0:=0+(0:Int).toNat*1) (Nat.lt_of_lt_of_le (Nat.lt_add_of_pos_right (by decide)) (Bk (sz:=1) rfl j4 n7))
           have adt:=ok.addPlc (b:=ag) (o:=0+(0:Int).toNat*1) (cs:=[]) (fun j c hj=>by simp at hj) rfl (by kernel_rfl) (by kernel_rfl)
           have ajs:∀ (e:AG) k c,([.int .i64 x117]:List SC)[k]? = some c→(d)[0+(0:Int).toNat*1+k]? = some (c.den e):=fun e k c hk=>w6 k _ (Al hk)
           refine A6 2 (0) rfl rfl (rfl) rfl (by decide) abp (by rfl) (by rfl) (by rfl) q6 (by rfl) ty t4 (by kernel_rfl) fun px (abq:Kn 238 (Dd a f g l m p q s u ac ad ae af ag) [tP 117 9 0,tS 116 ah x110.turns.length ai,tP 10 7 0,tP 9 6 0,tP 8 5 0,tP 1 0 0] px)=>?_
           obtain⟨cf,vb,H⟩:=H
           obtain⟨ajz,aj5,uc⟩:=Cm vb
           refine wl fun K hK=>?_
           refine BO 10 9 0 (0+(0:Int).toNat*1) (.c (.int .i64 1)) abq adt rfl rfl (by rfl) (by rfl) rfl rfl q6 rfl (by kernel_rfl) (Bk (sz:=1) rfl j4 n7) fun aiu abs adu=>?_
           have j7:Af jy cf (d.take (0+(0:Int).toNat*1+0)++([.int .i64 1]:List Value)++d.drop (0+(0:Int).toNat*1+0+1)):=by rw [uc]; exact Em (sz:=1) rfl j4 n7 (Ac:rep jy (1:Int) _)
           have tt:x110.turns.length=cf.length:=by rw [uc]; simp
           have abt:Kn 238 [(a,0),(f,g+(0:Int).toNat*1),(l,m+(1:Int).toNat*1),(p,q+(2:Int).toNat*1),(s,u+(3:Int).toNat*1),(ac,0),(ad,0),(ae,0),(af,0+(0:Int).toNat*1),(ag,0+(0:Int).toNat*1)] [(117,.one (.c (.ptr 9 0))),(116,.one (.c (.slice ah cf.length ai))),(10,.one (.c (.ptr 7 0))),(9,.one (.c (.ptr 6 0))),(8,.one (.c (.ptr 5 0))),(1,.one (.c (.ptr 0 0)))] px:=by rw [← tt]; exact abs
           have tq:Ah ⟨w,h,Az⟩ jy [(a,0),(f,g+(0:Int).toNat*1),(l,m+(1:Int).toNat*1),(p,q+(2:Int).toNat*1),(s,u+(3:Int).toNat*1),(ac,0),(ad,0),(ae,0),(af,0+(0:Int).toNat*1),(ag,0+(0:Int).toNat*1)] [⟨[.slice z 2 2,.slice aa 2 2,.slice ab 3 3],some 76⟩,⟨[.slice cg x59.length ch],none⟩,⟨[.slice cp x67.length ct],none⟩,⟨[.slice cy x75.length c2],none⟩,⟨[.slice c4 x83.length c5],none⟩,⟨[.slice ap ay.length aq,.slice ar x109.turns.length av,.slice au x109.spares.length aw],some 34⟩,⟨[.slice al x110.holds.length an,.slice ah cf.length ai,.slice am x110.spares.length ao],some 34⟩,⟨[.slice a9 x111.holds.length bb,.slice ba x111.turns.length bc,.slice gw x111.spares.length gx],some 34⟩,⟨[],none⟩,⟨[],none⟩] [⟨z,2,2,3,1,([.int .i64 0,.int .i64 15]:List Value),2⟩,⟨aa,2,2,3,1,([.int .i64 0,.int .i64 0]:List Value),2⟩,⟨aj,3,3,3,1,([.int .i64 10,.int .i64 10,.int .i64 10]:List Value),3⟩,⟨ak,3,3,3,1,([.int .i64 10,.int .i64 10,.int .i64 10]:List Value),3⟩,⟨y,3,3,3,1,([.int .i64 10,.int .i64 10,.int .i64 10]:List Value),3⟩,⟨ab,3,3,31,1,([.slice aj 3 3,.slice ak 3 3,.slice y 3 3]:List Value),3⟩,⟨ap,ay.length,aq,3,1,a1.take (0+(0:Int).toNat*1+0)++([.int .i64 3]:List Value)++a1.drop (0+(0:Int).toNat*1+0+1),0⟩,⟨ar,x109.turns.length,av,3,1,bu,0⟩,⟨au,x109.spares.length,aw,4,1,bw,0⟩,⟨al,x110.holds.length,an,3,1,a6,0⟩,⟨ah,cf.length,ai,3,1,d.take (0+(0:Int).toNat*1+0)++([.int .i64 1]:List Value)++d.drop (0+(0:Int).toNat*1+0+1),0⟩,⟨am,x110.spares.length,ao,4,1,bd,0⟩] aiu:=by rw [← tt]; exact adu
           refine hK _ _ ?_
           have abu:Kn 238 (Dd a f g l m p q s u ac ad ae af ag) [tP 10 7 0,tP 9 6 0,tP 8 5 0,tP 1 0 0] px:=abt.kp
           refine wf (QT (Ab (Rk 0 1 [tP 118 7 2,tP 10 7 0,tP 9 6 0,tP 8 5 0,tP 1 0 0] abu tq fun aht abv=>?_)))
           refine wl fun K hK=>?_
           refine Ea 7 2 (.c (.slice none 0 0)) (F2 a9 x111 bb ba bc) abv tq fun ao0 abw la=>hK _ _ ?_
           have abx:Kn 238 (Dd a f g l m p q s u ac ad ae af ag) [tP 10 7 0,tP 9 6 0,tP 8 5 0,tP 1 0 0] aht:=abw.kp
           refine wf (QT (Ao (by kernel_rfl) ?_))
           replace la:=la.drew
           refine At [] (Dd a f g l m p q s u ac ad ae af ag) (G0 z aa ab cg x59 ch cp x67 ct cy x75 c2 c4 x83 c5 ap ay aq ar x109 av au aw al x110 an ah cf ai am ao a9 x111 bb ba bc) ?_
           refine Dr [1] [1] [tA 121 (FF ap ay aq ar x109 av au aw),tP 10 7 0,tP 9 6 0,tP 1 0 0] abx la fun ama aby=>?_
           obtain⟨x120,ex120,H⟩:=H
           refine Dl 0 fun K hK=>?_
           refine wc [] aby la (Bi n la.has  ex120) fun ang aje p0 v7 fy ol=>?_
           obtain⟨_,rfl,⟨_,_,rfl,⟨i6,ji,rfl,o5⟩,⟨_,_,rfl,⟨_,_,rfl,rfl,rfl⟩,⟨_,_,rfl,⟨i7,jj,rfl,o6⟩,⟨_,_,rfl,⟨i8,jk,rfl,o7⟩,⟨_,_,rfl,rfl,⟨_,_,rfl,rfl,⟨_,_,rfl,rfl,rfl⟩⟩⟩⟩⟩⟩⟩⟩:=v7
           refine⟨.one (.agg (Mg i6 x120 ji i7 jj i8 jk)),rfl,fun ahu (ab0:Kn 238 (Dd a f g l m p q s u ac ad ae af ag) [tA 120 (Mg i6 x120 ji i7 jj i8 jk),tA 121 (FF ap ay aq ar x109 av au aw),tP 10 7 0,tP 9 6 0,tP 1 0 0] ahu)=>hK _ _ ol.plOk ?_⟩
           obtain⟨qt,ew,ae7,nc⟩:=ol.settle (i:=6) rfl
           replace j6:=j6.mono (QU fy ew)
           replace nc:Ah ⟨w,h,Az⟩ qt (Dd a f g l m p q s u ac ad ae af ag) (G0 z aa ab cg x59 ch cp x67 ct cy x75 c2 c4 x83 c5 ap ay aq ar x109 av au aw al x110 an ah cf ai am ao a9 x111 bb ba bc) [⟨z,2,2,3,1,([.int .i64 0,.int .i64 15]:List Value),2⟩,⟨aa,2,2,3,1,([.int .i64 0,.int .i64 0]:List Value),2⟩,⟨aj,3,3,3,1,([.int .i64 10,.int .i64 10,.int .i64 10]:List Value),3⟩,⟨ak,3,3,3,1,([.int .i64 10,.int .i64 10,.int .i64 10]:List Value),3⟩,⟨y,3,3,3,1,([.int .i64 10,.int .i64 10,.int .i64 10]:List Value),3⟩,⟨ab,3,3,31,1,([.slice aj 3 3,.slice ak 3 3,.slice y 3 3]:List Value),3⟩,⟨ap,ay.length,aq,3,1,a1.take (0+(0:Int).toNat*1+0)++([.int .i64 3]:List Value)++a1.drop (0+(0:Int).toNat*1+0+1),((a1.take (0+(0:Int).toNat*1+0)++([.int .i64 3]:List Value)++a1.drop (0+(0:Int).toNat*1+0+1)):List Value).length⟩,⟨ar,x109.turns.length,av,3,1,bu,0⟩,⟨au,x109.spares.length,aw,4,1,bw,0⟩,⟨al,x110.holds.length,an,3,1,a6,0⟩,⟨ah,cf.length,ai,3,1,d.take (0+(0:Int).toNat*1+0)++([.int .i64 1]:List Value)++d.drop (0+(0:Int).toNat*1+0+1),0⟩,⟨am,x110.spares.length,ao,4,1,bd,0⟩] p0:=nc
           have o8:Ar qt ap aq ay:=⟨_,j6,ae7,ol.rowCap (i:=6) rfl⟩
           obtain⟨qu,ep,ae8,nd⟩:=nc.settle (i:=7) rfl
           replace j1:=j1.mono (QU (QU (QU (QU hp gz) fy) ew) ep)
           replace nd:Ah ⟨w,h,Az⟩ qu (Dd a f g l m p q s u ac ad ae af ag) (G0 z aa ab cg x59 ch cp x67 ct cy x75 c2 c4 x83 c5 ap ay aq ar x109 av au aw al x110 an ah cf ai am ao a9 x111 bb ba bc) [⟨z,2,2,3,1,([.int .i64 0,.int .i64 15]:List Value),2⟩,⟨aa,2,2,3,1,([.int .i64 0,.int .i64 0]:List Value),2⟩,⟨aj,3,3,3,1,([.int .i64 10,.int .i64 10,.int .i64 10]:List Value),3⟩,⟨ak,3,3,3,1,([.int .i64 10,.int .i64 10,.int .i64 10]:List Value),3⟩,⟨y,3,3,3,1,([.int .i64 10,.int .i64 10,.int .i64 10]:List Value),3⟩,⟨ab,3,3,31,1,([.slice aj 3 3,.slice ak 3 3,.slice y 3 3]:List Value),3⟩,⟨ap,ay.length,aq,3,1,a1.take (0+(0:Int).toNat*1+0)++([.int .i64 3]:List Value)++a1.drop (0+(0:Int).toNat*1+0+1),((a1.take (0+(0:Int).toNat*1+0)++([.int .i64 3]:List Value)++a1.drop (0+(0:Int).toNat*1+0+1)):List Value).length⟩,⟨ar,x109.turns.length,av,3,1,bu,(bu:List Value).length⟩,⟨au,x109.spares.length,aw,4,1,bw,0⟩,⟨al,x110.holds.length,an,3,1,a6,0⟩,⟨ah,cf.length,ai,3,1,d.take (0+(0:Int).toNat*1+0)++([.int .i64 1]:List Value)++d.drop (0+(0:Int).toNat*1+0+1),0⟩,⟨am,x110.spares.length,ao,4,1,bd,0⟩] p0:=nd
           have o9:Ar qu ar av x109.turns:=⟨_,j1,ae8,nc.rowCap (i:=7) rfl⟩
           obtain⟨mg,eh,ae9,nf⟩:=nd.settle (i:=8) rfl
           replace o5:=o5.mono (QU (QU ew ep) eh)
           replace o6:=o6.mono (QU (QU ew ep) eh)
           replace o7:=o7.mono (QU (QU ew ep) eh)
           replace o8:=o8.mono (QU ep eh)
           replace o9:=o9.mono eh
           replace j2:=j2.mono (QU (QU (QU (QU (QU hp gz) fy) ew) ep) eh)
           replace nf:Ah ⟨w,h,Az⟩ mg (Dd a f g l m p q s u ac ad ae af ag) (G0 z aa ab cg x59 ch cp x67 ct cy x75 c2 c4 x83 c5 ap ay aq ar x109 av au aw al x110 an ah cf ai am ao a9 x111 bb ba bc) [⟨z,2,2,3,1,([.int .i64 0,.int .i64 15]:List Value),2⟩,⟨aa,2,2,3,1,([.int .i64 0,.int .i64 0]:List Value),2⟩,⟨aj,3,3,3,1,([.int .i64 10,.int .i64 10,.int .i64 10]:List Value),3⟩,⟨ak,3,3,3,1,([.int .i64 10,.int .i64 10,.int .i64 10]:List Value),3⟩,⟨y,3,3,3,1,([.int .i64 10,.int .i64 10,.int .i64 10]:List Value),3⟩,⟨ab,3,3,31,1,([.slice aj 3 3,.slice ak 3 3,.slice y 3 3]:List Value),3⟩,⟨ap,ay.length,aq,3,1,a1.take (0+(0:Int).toNat*1+0)++([.int .i64 3]:List Value)++a1.drop (0+(0:Int).toNat*1+0+1),((a1.take (0+(0:Int).toNat*1+0)++([.int .i64 3]:List Value)++a1.drop (0+(0:Int).toNat*1+0+1)):List Value).length⟩,⟨ar,x109.turns.length,av,3,1,bu,(bu:List Value).length⟩,⟨au,x109.spares.length,aw,4,1,bw,(bw:List Value).length⟩,⟨al,x110.holds.length,an,3,1,a6,0⟩,⟨ah,cf.length,ai,3,1,d.take (0+(0:Int).toNat*1+0)++([.int .i64 1]:List Value)++d.drop (0+(0:Int).toNat*1+0+1),0⟩,⟨am,x110.spares.length,ao,4,1,bd,0⟩] p0:=nf
           have ael:Ar mg au aw x109.spares:=⟨_,j2,ae9,nd.rowCap (i:=8) rfl⟩
           obtain⟨x122,ex122,H⟩:=H
           refine Dl 2 fun K hK=>?_
           refine wc [.agg (Mg i6 x120 ji i7 jj i8 jk),.agg (FF ap ay aq ar x109 av au aw)] ab0 nf (C0 n nf.has x120 ((Aa (Ae o5) (Aa (Aa Ac Ac) (Aa (Ae o6) (Aa (Ae o7) (Aa Ac (Aa Ac (Aa Ac Ac))))))):rep mg x120 _) (A0.mk ay x109.turns x109.spares) ((Aa (Ae o8) (Aa (Ae o9) (Ae ael))):rep mg (A0.mk ay x109.turns x109.spares) _) ex122) fun ani ajg ao2 v8 fz i0=>?_
           obtain⟨_,_,rfl,⟨p4,p8,rfl,aka⟩,rfl⟩:=v8
           refine⟨.tup [.c (.slice p4 x122.1.length p8),.c (.int .i64 x122.2)],rfl,fun ahv (ab1:Kn 238 (Dd a f g l m p q s u ac ad ae af ag) [(122,.tup [.c (.slice p4 x122.1.length p8),.c (.int .i64 x122.2)]),tA 120 (Mg i6 x120 ji i7 jj i8 jk),tA 121 (FF ap ay aq ar x109 av au aw),tP 10 7 0,tP 9 6 0,tP 1 0 0] ahv)=>hK _ _ i0.plOk ?_⟩
           refine Dr [3,4,5,6] [6,5,4,3,2,0,1] [tI 3 x122.2,tP 10 7 0,tP 9 6 0,tP 1 0 0] ab1 i0 fun amb ab2=>?_
           refine AH (by kernel_rfl) (QT (Ao (by kernel_rfl) ?_))
           replace i0:=i0.drew
           refine At [] (Dd a f g l m p q s u ac ad ae af ag) (G0 z aa ab cg x59 ch cp x67 ct cy x75 c2 c4 x83 c5 ap ay aq ar x109 av au aw al x110 an ah cf ai am ao a9 x111 bb ba bc) ?_
           refine Dr [1] [1] [tA 127 (Lz al x110 an ah cf ai am ao),tI 3 x122.2,tP 10 7 0,tP 9 6 0,tP 1 0 0] ab2 i0 fun amc ab3=>?_
           obtain⟨x126,ex126,H⟩:=H
           refine Dl 0 fun K hK=>?_
           refine wc [] ab3 i0 (Bi n i0.has  ex126) fun anj ajh p1 wb f0 om=>?_
           obtain⟨_,rfl,⟨_,_,rfl,⟨i9,jl,rfl,pa⟩,⟨_,_,rfl,⟨_,_,rfl,rfl,rfl⟩,⟨_,_,rfl,⟨ja,jm,rfl,pb⟩,⟨_,_,rfl,⟨jb,jn,rfl,pc⟩,⟨_,_,rfl,rfl,⟨_,_,rfl,rfl,⟨_,_,rfl,rfl,rfl⟩⟩⟩⟩⟩⟩⟩⟩:=wb
           refine⟨.one (.agg (Mh i9 x126 jl ja jm jb jn)),rfl,fun ahw (ab4:Kn 238 (Dd a f g l m p q s u ac ad ae af ag) [tA 126 (Mh i9 x126 jl ja jm jb jn),tA 127 (Lz al x110 an ah cf ai am ao),tI 3 x122.2,tP 10 7 0,tP 9 6 0,tP 1 0 0] ahw)=>hK _ _ om.plOk ?_⟩
           obtain⟨qv,ex,afa,ng⟩:=om.settle (i:=9) rfl
           replace j3:=j3.mono (QU (QU (QU (QU (QU (QU (QU gz fy) ew) ep) eh) fz) f0) ex)
           replace ng:Ah ⟨w,h,Az⟩ qv (Dd a f g l m p q s u ac ad ae af ag) (G0 z aa ab cg x59 ch cp x67 ct cy x75 c2 c4 x83 c5 ap ay aq ar x109 av au aw al x110 an ah cf ai am ao a9 x111 bb ba bc) [⟨z,2,2,3,1,([.int .i64 0,.int .i64 15]:List Value),2⟩,⟨aa,2,2,3,1,([.int .i64 0,.int .i64 0]:List Value),2⟩,⟨aj,3,3,3,1,([.int .i64 10,.int .i64 10,.int .i64 10]:List Value),3⟩,⟨ak,3,3,3,1,([.int .i64 10,.int .i64 10,.int .i64 10]:List Value),3⟩,⟨y,3,3,3,1,([.int .i64 10,.int .i64 10,.int .i64 10]:List Value),3⟩,⟨ab,3,3,31,1,([.slice aj 3 3,.slice ak 3 3,.slice y 3 3]:List Value),3⟩,⟨ap,ay.length,aq,3,1,a1.take (0+(0:Int).toNat*1+0)++([.int .i64 3]:List Value)++a1.drop (0+(0:Int).toNat*1+0+1),((a1.take (0+(0:Int).toNat*1+0)++([.int .i64 3]:List Value)++a1.drop (0+(0:Int).toNat*1+0+1)):List Value).length⟩,⟨ar,x109.turns.length,av,3,1,bu,(bu:List Value).length⟩,⟨au,x109.spares.length,aw,4,1,bw,(bw:List Value).length⟩,⟨al,x110.holds.length,an,3,1,a6,(a6:List Value).length⟩,⟨ah,cf.length,ai,3,1,d.take (0+(0:Int).toNat*1+0)++([.int .i64 1]:List Value)++d.drop (0+(0:Int).toNat*1+0+1),0⟩,⟨am,x110.spares.length,ao,4,1,bd,0⟩] p1:=ng
           have pd:Ar qv al an x110.holds:=⟨_,j3,afa,om.rowCap (i:=9) rfl⟩
           obtain⟨qw,er,afb,nh⟩:=ng.settle (i:=10) rfl
           replace j7:=j7.mono (QU (QU (QU (QU (QU (QU (QU fy ew) ep) eh) fz) f0) ex) er)
           replace nh:Ah ⟨w,h,Az⟩ qw (Dd a f g l m p q s u ac ad ae af ag) (G0 z aa ab cg x59 ch cp x67 ct cy x75 c2 c4 x83 c5 ap ay aq ar x109 av au aw al x110 an ah cf ai am ao a9 x111 bb ba bc) [⟨z,2,2,3,1,([.int .i64 0,.int .i64 15]:List Value),2⟩,⟨aa,2,2,3,1,([.int .i64 0,.int .i64 0]:List Value),2⟩,⟨aj,3,3,3,1,([.int .i64 10,.int .i64 10,.int .i64 10]:List Value),3⟩,⟨ak,3,3,3,1,([.int .i64 10,.int .i64 10,.int .i64 10]:List Value),3⟩,⟨y,3,3,3,1,([.int .i64 10,.int .i64 10,.int .i64 10]:List Value),3⟩,⟨ab,3,3,31,1,([.slice aj 3 3,.slice ak 3 3,.slice y 3 3]:List Value),3⟩,⟨ap,ay.length,aq,3,1,a1.take (0+(0:Int).toNat*1+0)++([.int .i64 3]:List Value)++a1.drop (0+(0:Int).toNat*1+0+1),((a1.take (0+(0:Int).toNat*1+0)++([.int .i64 3]:List Value)++a1.drop (0+(0:Int).toNat*1+0+1)):List Value).length⟩,⟨ar,x109.turns.length,av,3,1,bu,(bu:List Value).length⟩,⟨au,x109.spares.length,aw,4,1,bw,(bw:List Value).length⟩,⟨al,x110.holds.length,an,3,1,a6,(a6:List Value).length⟩,⟨ah,cf.length,ai,3,1,d.take (0+(0:Int).toNat*1+0)++([.int .i64 1]:List Value)++d.drop (0+(0:Int).toNat*1+0+1),((d.take (0+(0:Int).toNat*1+0)++([.int .i64 1]:List Value)++d.drop (0+(0:Int).toNat*1+0+1)):List Value).length⟩,⟨am,x110.spares.length,ao,4,1,bd,0⟩] p1:=nh
           have pe:Ar qw ah ai cf:=⟨_,j7,afb,ng.rowCap (i:=10) rfl⟩
           obtain⟨mh,ei,afc,ni⟩:=nh.settle (i:=11) rfl
           replace pa:=pa.mono (QU (QU ex er) ei)
           replace pb:=pb.mono (QU (QU ex er) ei)
           replace pc:=pc.mono (QU (QU ex er) ei)
           replace pd:=pd.mono (QU er ei)
           replace pe:=pe.mono ei
           replace j5:=j5.mono (QU (QU (QU (QU (QU (QU (QU (QU (QU gz fy) ew) ep) eh) fz) f0) ex) er) ei)
           replace ni:Ah ⟨w,h,Az⟩ mh (Dd a f g l m p q s u ac ad ae af ag) (G0 z aa ab cg x59 ch cp x67 ct cy x75 c2 c4 x83 c5 ap ay aq ar x109 av au aw al x110 an ah cf ai am ao a9 x111 bb ba bc) [⟨z,2,2,3,1,([.int .i64 0,.int .i64 15]:List Value),2⟩,⟨aa,2,2,3,1,([.int .i64 0,.int .i64 0]:List Value),2⟩,⟨aj,3,3,3,1,([.int .i64 10,.int .i64 10,.int .i64 10]:List Value),3⟩,⟨ak,3,3,3,1,([.int .i64 10,.int .i64 10,.int .i64 10]:List Value),3⟩,⟨y,3,3,3,1,([.int .i64 10,.int .i64 10,.int .i64 10]:List Value),3⟩,⟨ab,3,3,31,1,([.slice aj 3 3,.slice ak 3 3,.slice y 3 3]:List Value),3⟩,⟨ap,ay.length,aq,3,1,a1.take (0+(0:Int).toNat*1+0)++([.int .i64 3]:List Value)++a1.drop (0+(0:Int).toNat*1+0+1),((a1.take (0+(0:Int).toNat*1+0)++([.int .i64 3]:List Value)++a1.drop (0+(0:Int).toNat*1+0+1)):List Value).length⟩,⟨ar,x109.turns.length,av,3,1,bu,(bu:List Value).length⟩,⟨au,x109.spares.length,aw,4,1,bw,(bw:List Value).length⟩,⟨al,x110.holds.length,an,3,1,a6,(a6:List Value).length⟩,⟨ah,cf.length,ai,3,1,d.take (0+(0:Int).toNat*1+0)++([.int .i64 1]:List Value)++d.drop (0+(0:Int).toNat*1+0+1),((d.take (0+(0:Int).toNat*1+0)++([.int .i64 1]:List Value)++d.drop (0+(0:Int).toNat*1+0+1)):List Value).length⟩,⟨am,x110.spares.length,ao,4,1,bd,(bd:List Value).length⟩] p1:=ni
           have aem:Ar mh am ao x110.spares:=⟨_,j5,afc,nh.rowCap (i:=11) rfl⟩
           obtain⟨x128,ex128,H⟩:=H
           refine Dl 2 fun K hK=>?_
           refine wc [.agg (Mh i9 x126 jl ja jm jb jn),.agg (Lz al x110 an ah cf ai am ao)] ab4 ni (C0 n ni.has x126 ((Aa (Ae pa) (Aa (Aa Ac Ac) (Aa (Ae pb) (Aa (Ae pc) (Aa Ac (Aa Ac (Aa Ac Ac))))))):rep mh x126 _) (A0.mk x110.holds cf x110.spares) ((Aa (Ae pd) (Aa (Ae pe) (Ae aem))):rep mh (A0.mk x110.holds cf x110.spares) _) ex128) fun ank aji ao3 wd f1 i1=>?_
           obtain⟨_,_,rfl,⟨p5,p9,rfl,akb⟩,rfl⟩:=wd
           refine⟨.tup [.c (.slice p5 x128.1.length p9),.c (.int .i64 x128.2)],rfl,fun ahx (ab5:Kn 238 (Dd a f g l m p q s u ac ad ae af ag) [(128,.tup [.c (.slice p5 x128.1.length p9),.c (.int .i64 x128.2)]),tA 126 (Mh i9 x126 jl ja jm jb jn),tA 127 (Lz al x110 an ah cf ai am ao),tI 3 x122.2,tP 10 7 0,tP 9 6 0,tP 1 0 0] ahx)=>hK _ _ i1.plOk ?_⟩
           refine Dr [3,4,5,6] [6,5,4,3,2,0,1] [tI 5 x128.2,tI 3 x122.2,tP 10 7 0,tP 9 6 0,tP 1 0 0] ab5 i1 fun amd ab6=>?_
           refine AH (by kernel_rfl) (QT (Ao (by kernel_rfl) ?_))
           replace i1:=i1.drew
           refine At [] (Dd a f g l m p q s u ac ad ae af ag) (G0 z aa ab cg x59 ch cp x67 ct cy x75 c2 c4 x83 c5 ap ay aq ar x109 av au aw al x110 an ah cf ai am ao a9 x111 bb ba bc) ?_
           refine Dr [1] [1] [tA 133 (F2 a9 x111 bb ba bc),tI 5 x128.2,tI 3 x122.2,tP 9 6 0,tP 1 0 0] ab6 i1 fun ame ab7=>?_
           obtain⟨x132,ex132,H⟩:=H
           refine Dl 0 fun K hK=>?_
           refine wc [] ab7 i1 (Bi n i1.has  ex132) fun anl qx ao4 we f2 op=>?_
           replace o3:=o3.mono (QU (QU (QU (QU (QU (QU (QU (QU (QU (QU fy ew) ep) eh) fz) f0) ex) er) ei) f1) f2)
           replace o4:=o4.mono (QU (QU (QU (QU (QU (QU (QU (QU (QU (QU fy ew) ep) eh) fz) f0) ex) er) ei) f1) f2)
           obtain⟨_,rfl,⟨_,_,rfl,⟨jc,jo,rfl,aen⟩,⟨_,_,rfl,⟨_,_,rfl,rfl,rfl⟩,⟨_,_,rfl,⟨jd,jp,rfl,aeo⟩,⟨_,_,rfl,⟨je,jq,rfl,aep⟩,⟨_,_,rfl,rfl,⟨_,_,rfl,rfl,⟨_,_,rfl,rfl,rfl⟩⟩⟩⟩⟩⟩⟩⟩:=we
           refine⟨.one (.agg (Mi jc x132 jo jd jp je jq)),rfl,fun ahy (ab8:Kn 238 (Dd a f g l m p q s u ac ad ae af ag) [tA 132 (Mi jc x132 jo jd jp je jq),tA 133 (F2 a9 x111 bb ba bc),tI 5 x128.2,tI 3 x122.2,tP 9 6 0,tP 1 0 0] ahy)=>hK _ _ op.plOk ?_⟩
           obtain⟨x134,ex134,H⟩:=H
           refine Dl 2 fun K hK=>?_
           refine wc [.agg (Mi jc x132 jo jd jp je jq),.agg (F2 a9 x111 bb ba bc)] ab8 op (C0 n op.has x132 ((Aa (Ae aen) (Aa (Aa Ac Ac) (Aa (Ae aeo) (Aa (Ae aep) (Aa Ac (Aa Ac (Aa Ac Ac))))))):rep qx x132 _) (A0.mk x111.holds x111.turns ([]:List Bool)) ((Aa (Ae o3) (Aa (Ae o4) (Ae Ar.nil))):rep qx (A0.mk x111.holds x111.turns ([]:List Bool)) _) ex134) fun anm ajj aiv wg g0 oq=>?_
           replace ec:=ec.mono (QU (QU (QU (QU (QU (QU (QU (QU (QU (QU (QU (QU (QU (QU k4 hp) gz) fy) ew) ep) eh) fz) f0) ex) er) ei) f1) f2) g0)
           replace d8:=d8.mono (QU (QU (QU (QU (QU (QU (QU (QU (QU (QU (QU (QU (QU (QU k4 hp) gz) fy) ew) ep) eh) fz) f0) ex) er) ei) f1) f2) g0)
           replace d9:=d9.mono (QU (QU (QU (QU (QU (QU (QU (QU (QU (QU (QU (QU (QU (QU k4 hp) gz) fy) ew) ep) eh) fz) f0) ex) er) ei) f1) f2) g0)
           replace ea:=ea.mono (QU (QU (QU (QU (QU (QU (QU (QU (QU (QU (QU (QU (QU (QU k4 hp) gz) fy) ew) ep) eh) fz) f0) ex) er) ei) f1) f2) g0)
           replace eb:=eb.mono (QU (QU (QU (QU (QU (QU (QU (QU (QU (QU (QU (QU (QU (QU k4 hp) gz) fy) ew) ep) eh) fz) f0) ex) er) ei) f1) f2) g0)
           replace j6:=j6.mono (QU (QU (QU (QU (QU (QU (QU (QU (QU ep eh) fz) f0) ex) er) ei) f1) f2) g0)
           replace j1:=j1.mono (QU (QU (QU (QU (QU (QU (QU (QU eh fz) f0) ex) er) ei) f1) f2) g0)
           replace j2:=j2.mono (QU (QU (QU (QU (QU (QU (QU fz f0) ex) er) ei) f1) f2) g0)
           replace j3:=j3.mono (QU (QU (QU (QU er ei) f1) f2) g0)
           replace j7:=j7.mono (QU (QU (QU ei f1) f2) g0)
           replace j5:=j5.mono (QU (QU f1 f2) g0)
           obtain⟨_,_,rfl,⟨p6,qa,rfl,akc⟩,rfl⟩:=wg
           refine⟨.tup [.c (.slice p6 x134.1.length qa),.c (.int .i64 x134.2)],rfl,fun ahz (ab9:Kn 238 (Dd a f g l m p q s u ac ad ae af ag) [(134,.tup [.c (.slice p6 x134.1.length qa),.c (.int .i64 x134.2)]),tA 132 (Mi jc x132 jo jd jp je jq),tA 133 (F2 a9 x111 bb ba bc),tI 5 x128.2,tI 3 x122.2,tP 9 6 0,tP 1 0 0] ahz)=>hK _ _ oq.plOk ?_⟩
           refine Dr [3,4,5,6] [6,5,4,3,2,0,1] [tI 7 x134.2,tI 5 x128.2,tI 3 x122.2,tP 9 6 0,tP 1 0 0] ab9 oq fun ah0 aca=>?_
           refine AH (by kernel_rfl) (QT ?_)
           have acb:Kn 238 (Dd a f g l m p q s u ac ad ae af ag) [tI 7 x134.2,tI 5 x128.2,tI 3 x122.2,tP 9 6 0,tP 1 0 0] ah0:=aca.kp
           have os:Ah ⟨w,h,Az⟩ h (Dd a f g l m p q s u ac ad ae af ag) [⟨B8 z aa ab,some 76⟩,⟨[],none⟩,⟨[],none⟩,⟨[],none⟩,⟨[],none⟩,⟨FF ap ay aq ar x109 av au aw,some 34⟩,⟨Lz al x110 an ah cf ai am ao,some 34⟩,⟨F2 a9 x111 bb ba bc,some 34⟩,⟨[],none⟩,⟨[],none⟩] [⟨z,2,2,3,1,([.int .i64 0,.int .i64 15]:List Value),0⟩,⟨aa,2,2,3,1,([.int .i64 0,.int .i64 0]:List Value),0⟩,⟨aj,3,3,3,1,([.int .i64 10,.int .i64 10,.int .i64 10]:List Value),0⟩,⟨ak,3,3,3,1,([.int .i64 10,.int .i64 10,.int .i64 10]:List Value),0⟩,⟨y,3,3,3,1,([.int .i64 10,.int .i64 10,.int .i64 10]:List Value),0⟩,⟨ab,3,3,31,1,([.slice aj 3 3,.slice ak 3 3,.slice y 3 3]:List Value),0⟩,⟨ap,ay.length,aq,3,1,a1.take (0+(0:Int).toNat*1+0)++([.int .i64 3]:List Value)++a1.drop (0+(0:Int).toNat*1+0+1),0⟩,⟨ar,x109.turns.length,av,3,1,bu,0⟩,⟨au,x109.spares.length,aw,4,1,bw,0⟩,⟨al,x110.holds.length,an,3,1,a6,0⟩,⟨ah,cf.length,ai,3,1,d.take (0+(0:Int).toNat*1+0)++([.int .i64 1]:List Value)++d.drop (0+(0:Int).toNat*1+0+1),0⟩,⟨am,x110.spares.length,ao,4,1,bd,0⟩] aiv:=Ah.reset hh oq
           have ez:Af h ([0,15]:List Int) ([.int .i64 0,.int .i64 15]:List Value):=Af.atInt ec
           have e0:Af h ([0,0]:List Int) ([.int .i64 0,.int .i64 0]:List Value):=Af.atInt d8
           have e1:Af h ([10,10,10]:List Int) ([.int .i64 10,.int .i64 10,.int .i64 10]:List Value):=Af.atInt d9
           have e2:Af h ([10,10,10]:List Int) ([.int .i64 10,.int .i64 10,.int .i64 10]:List Value):=Af.atInt ea
           have j8:Af h ([10,10,10]:List Int) ([.int .i64 10,.int .i64 10,.int .i64 10]:List Value):=Af.atInt eb
           have gj:Af h ay (a1.take (0+(0:Int).toNat*1+0)++([.int .i64 3]:List Value)++a1.drop (0+(0:Int).toNat*1+0+1)):=Af.atInt j6
           have gk:Af h x109.turns bu:=Af.atInt j1
           have gl:Af h x109.spares bw:=Af.atBool j2
           have e3:Af h x110.holds a6:=Af.atInt j3
           have ml:Af h cf (d.take (0+(0:Int).toNat*1+0)++([.int .i64 1]:List Value)++d.drop (0+(0:Int).toNat*1+0+1)):=Af.atInt j7
           have e4:Af h x110.spares bd:=Af.atBool j5
           refine Ab (Rk 0 2 [tS 138 ah cf.length ai,tI 7 x134.2,tI 5 x128.2,tI 3 x122.2,tP 9 6 0,tP 1 0 0] acb os fun amf acc=>?_)
           obtain⟨x139,ex139,H⟩:=H
           obtain⟨tz,t5,af2⟩:=Ak ex139
           have n8:=AX tz t5
           obtain⟨ai4,aft,w7⟩:=Dc (sz:=1) rfl ml af2
           obtain rfl:=aft
           obtain⟨ax,q7⟩:=Bo os (i:=10) rfl (b0:=0+(0:Int).toNat*1) (Nat.lt_of_lt_of_le (Nat.lt_add_of_pos_right (by decide)) (Bk (sz:=1) rfl ml n8))
           have adw:=os.addPlc (b:=ax) (o:=0+(0:Int).toNat*1) (cs:=[]) (fun j c hj=>by simp at hj) rfl (by kernel_rfl) (by kernel_rfl)
           have ajt:∀ (e:AG) k c,([.int .i64 x139]:List SC)[k]? = some c→((d.take (0+(0:Int).toNat*1+0)++([.int .i64 1]:List Value)++d.drop (0+(0:Int).toNat*1+0+1)))[0+(0:Int).toNat*1+k]? = some (c.den e):=fun e k c hk=>w7 k _ (Al hk)
           refine A6 2 (0) rfl rfl (rfl) rfl (by decide) acc (by rfl) (by rfl) (by rfl) q7 (by rfl) tz t5 (by kernel_rfl) fun py (acd:Kn 238 (Hv a f g l m p q s u ac ad ae af ag ax) [tP 139 10 0,tS 138 ah cf.length ai,tI 7 x134.2,tI 5 x128.2,tI 3 x122.2,tP 9 6 0,tP 1 0 0] py)=>?_
           obtain⟨a2,vc,H⟩:=H
           obtain⟨aj0,aj6,ud⟩:=Cm vc
           refine wl fun K hK=>?_
           refine BO 10 10 0 (0+(0:Int).toNat*1) (.c (.int .i64 0)) acd adw rfl rfl (by rfl) (by rfl) rfl rfl q7 rfl (by kernel_rfl) (Bk (sz:=1) rfl ml n8) fun aiw ace adx=>?_
           have e5:Af h a2 ((d.take (0+(0:Int).toNat*1+0)++([.int .i64 1]:List Value)++d.drop (0+(0:Int).toNat*1+0+1)).take (0+(0:Int).toNat*1+0)++([.int .i64 0]:List Value)++(d.take (0+(0:Int).toNat*1+0)++([.int .i64 1]:List Value)++d.drop (0+(0:Int).toNat*1+0+1)).drop (0+(0:Int).toNat*1+0+1)):=by rw [ud]; exact Em (sz:=1) rfl ml n8 (Ac:rep h (0:Int) _)
           have tu:cf.length=a2.length:=by rw [ud]; simp
           have acf:Kn 238 [(a,0),(f,g+(0:Int).toNat*1),(l,m+(1:Int).toNat*1),(p,q+(2:Int).toNat*1),(s,u+(3:Int).toNat*1),(ac,0),(ad,0),(ae,0),(af,0+(0:Int).toNat*1),(ag,0+(0:Int).toNat*1),(ax,0+(0:Int).toNat*1)] [(139,.one (.c (.ptr 10 0))),(138,.one (.c (.slice ah a2.length ai))),(7,.one (.c (.int .i64 x134.2))),(5,.one (.c (.int .i64 x128.2))),(3,.one (.c (.int .i64 x122.2))),(9,.one (.c (.ptr 6 0))),(1,.one (.c (.ptr 0 0)))] py:=by rw [← tu]; exact ace
           have lb:Ah ⟨w,h,Az⟩ h [(a,0),(f,g+(0:Int).toNat*1),(l,m+(1:Int).toNat*1),(p,q+(2:Int).toNat*1),(s,u+(3:Int).toNat*1),(ac,0),(ad,0),(ae,0),(af,0+(0:Int).toNat*1),(ag,0+(0:Int).toNat*1),(ax,0+(0:Int).toNat*1)] [⟨[.slice z 2 2,.slice aa 2 2,.slice ab 3 3],some 76⟩,⟨[],none⟩,⟨[],none⟩,⟨[],none⟩,⟨[],none⟩,⟨[.slice ap ay.length aq,.slice ar x109.turns.length av,.slice au x109.spares.length aw],some 34⟩,⟨[.slice al x110.holds.length an,.slice ah a2.length ai,.slice am x110.spares.length ao],some 34⟩,⟨[.slice a9 x111.holds.length bb,.slice ba x111.turns.length bc,.slice none 0 0],some 34⟩,⟨[],none⟩,⟨[],none⟩,⟨[],none⟩] [⟨z,2,2,3,1,([.int .i64 0,.int .i64 15]:List Value),0⟩,⟨aa,2,2,3,1,([.int .i64 0,.int .i64 0]:List Value),0⟩,⟨aj,3,3,3,1,([.int .i64 10,.int .i64 10,.int .i64 10]:List Value),0⟩,⟨ak,3,3,3,1,([.int .i64 10,.int .i64 10,.int .i64 10]:List Value),0⟩,⟨y,3,3,3,1,([.int .i64 10,.int .i64 10,.int .i64 10]:List Value),0⟩,⟨ab,3,3,31,1,([.slice aj 3 3,.slice ak 3 3,.slice y 3 3]:List Value),0⟩,⟨ap,ay.length,aq,3,1,a1.take (0+(0:Int).toNat*1+0)++([.int .i64 3]:List Value)++a1.drop (0+(0:Int).toNat*1+0+1),0⟩,⟨ar,x109.turns.length,av,3,1,bu,0⟩,⟨au,x109.spares.length,aw,4,1,bw,0⟩,⟨al,x110.holds.length,an,3,1,a6,0⟩,⟨ah,a2.length,ai,3,1,(d.take (0+(0:Int).toNat*1+0)++([.int .i64 1]:List Value)++d.drop (0+(0:Int).toNat*1+0+1)).take (0+(0:Int).toNat*1+0)++([.int .i64 0]:List Value)++(d.take (0+(0:Int).toNat*1+0)++([.int .i64 1]:List Value)++d.drop (0+(0:Int).toNat*1+0+1)).drop (0+(0:Int).toNat*1+0+1),0⟩,⟨am,x110.spares.length,ao,4,1,bd,0⟩] aiw:=by rw [← tu]; exact adx
           refine hK _ _ ?_
           have acg:Kn 238 (Hv a f g l m p q s u ac ad ae af ag ax) [tI 7 x134.2,tI 5 x128.2,tI 3 x122.2,tP 9 6 0,tP 1 0 0] py:=acf.kp
           refine wf (QT (Ao (by kernel_rfl) ?_))
           replace lb:=lb.drew
           refine At [] (Hv a f g l m p q s u ac ad ae af ag ax) [⟨B8 z aa ab,some 76⟩,⟨[],none⟩,⟨[],none⟩,⟨[],none⟩,⟨[],none⟩,⟨FF ap ay aq ar x109 av au aw,some 34⟩,⟨GI al x110 an ah a2 ai am ao,some 34⟩,⟨F2 a9 x111 bb ba bc,some 34⟩,⟨[],none⟩,⟨[],none⟩,⟨[],none⟩] ?_
           refine Dr [1] [1] [tA 142 (GI al x110 an ah a2 ai am ao),tI 7 x134.2,tI 5 x128.2,tI 3 x122.2,tP 1 0 0] acg lb fun amg ach=>?_
           obtain⟨x141,ex141,H⟩:=H
           refine Dl 0 fun K hK=>?_
           refine wc [] ach lb (Bi n lb.has  ex141) fun ann ajk p2 wh g1 ot=>?_
           obtain⟨_,rfl,⟨_,_,rfl,⟨jf,jr,rfl,pi⟩,⟨_,_,rfl,⟨_,_,rfl,rfl,rfl⟩,⟨_,_,rfl,⟨jg,js,rfl,pj⟩,⟨_,_,rfl,⟨jh,jt,rfl,pk⟩,⟨_,_,rfl,rfl,⟨_,_,rfl,rfl,⟨_,_,rfl,rfl,rfl⟩⟩⟩⟩⟩⟩⟩⟩:=wh
           refine⟨.one (.agg (Mj jf x141 jr jg js jh jt)),rfl,fun ah2 (acj:Kn 238 (Hv a f g l m p q s u ac ad ae af ag ax) [tA 141 (Mj jf x141 jr jg js jh jt),tA 142 (GI al x110 an ah a2 ai am ao),tI 7 x134.2,tI 5 x128.2,tI 3 x122.2,tP 1 0 0] ah2)=>hK _ _ ot.plOk ?_⟩
           obtain⟨qy,fo,afd,nj⟩:=ot.settle (i:=9) rfl
           replace e3:=e3.mono (QU g1 fo)
           replace nj:Ah ⟨w,h,Az⟩ qy (Hv a f g l m p q s u ac ad ae af ag ax) [⟨B8 z aa ab,some 76⟩,⟨[],none⟩,⟨[],none⟩,⟨[],none⟩,⟨[],none⟩,⟨FF ap ay aq ar x109 av au aw,some 34⟩,⟨GI al x110 an ah a2 ai am ao,some 34⟩,⟨F2 a9 x111 bb ba bc,some 34⟩,⟨[],none⟩,⟨[],none⟩,⟨[],none⟩] [⟨z,2,2,3,1,([.int .i64 0,.int .i64 15]:List Value),0⟩,⟨aa,2,2,3,1,([.int .i64 0,.int .i64 0]:List Value),0⟩,⟨aj,3,3,3,1,([.int .i64 10,.int .i64 10,.int .i64 10]:List Value),0⟩,⟨ak,3,3,3,1,([.int .i64 10,.int .i64 10,.int .i64 10]:List Value),0⟩,⟨y,3,3,3,1,([.int .i64 10,.int .i64 10,.int .i64 10]:List Value),0⟩,⟨ab,3,3,31,1,([.slice aj 3 3,.slice ak 3 3,.slice y 3 3]:List Value),0⟩,⟨ap,ay.length,aq,3,1,a1.take (0+(0:Int).toNat*1+0)++([.int .i64 3]:List Value)++a1.drop (0+(0:Int).toNat*1+0+1),0⟩,⟨ar,x109.turns.length,av,3,1,bu,0⟩,⟨au,x109.spares.length,aw,4,1,bw,0⟩,⟨al,x110.holds.length,an,3,1,a6,(a6:List Value).length⟩,⟨ah,a2.length,ai,3,1,(d.take (0+(0:Int).toNat*1+0)++([.int .i64 1]:List Value)++d.drop (0+(0:Int).toNat*1+0+1)).take (0+(0:Int).toNat*1+0)++([.int .i64 0]:List Value)++(d.take (0+(0:Int).toNat*1+0)++([.int .i64 1]:List Value)++d.drop (0+(0:Int).toNat*1+0+1)).drop (0+(0:Int).toNat*1+0+1),0⟩,⟨am,x110.spares.length,ao,4,1,bd,0⟩] p2:=nj
           have ff:Ar qy al an x110.holds:=⟨_,e3,afd,ot.rowCap (i:=9) rfl⟩
           obtain⟨qz,e9,afe,nk⟩:=nj.settle (i:=10) rfl
           replace e5:=e5.mono (QU (QU g1 fo) e9)
           replace nk:Ah ⟨w,h,Az⟩ qz (Hv a f g l m p q s u ac ad ae af ag ax) [⟨B8 z aa ab,some 76⟩,⟨[],none⟩,⟨[],none⟩,⟨[],none⟩,⟨[],none⟩,⟨FF ap ay aq ar x109 av au aw,some 34⟩,⟨GI al x110 an ah a2 ai am ao,some 34⟩,⟨F2 a9 x111 bb ba bc,some 34⟩,⟨[],none⟩,⟨[],none⟩,⟨[],none⟩] [⟨z,2,2,3,1,([.int .i64 0,.int .i64 15]:List Value),0⟩,⟨aa,2,2,3,1,([.int .i64 0,.int .i64 0]:List Value),0⟩,⟨aj,3,3,3,1,([.int .i64 10,.int .i64 10,.int .i64 10]:List Value),0⟩,⟨ak,3,3,3,1,([.int .i64 10,.int .i64 10,.int .i64 10]:List Value),0⟩,⟨y,3,3,3,1,([.int .i64 10,.int .i64 10,.int .i64 10]:List Value),0⟩,⟨ab,3,3,31,1,([.slice aj 3 3,.slice ak 3 3,.slice y 3 3]:List Value),0⟩,⟨ap,ay.length,aq,3,1,a1.take (0+(0:Int).toNat*1+0)++([.int .i64 3]:List Value)++a1.drop (0+(0:Int).toNat*1+0+1),0⟩,⟨ar,x109.turns.length,av,3,1,bu,0⟩,⟨au,x109.spares.length,aw,4,1,bw,0⟩,⟨al,x110.holds.length,an,3,1,a6,(a6:List Value).length⟩,⟨ah,a2.length,ai,3,1,(d.take (0+(0:Int).toNat*1+0)++([.int .i64 1]:List Value)++d.drop (0+(0:Int).toNat*1+0+1)).take (0+(0:Int).toNat*1+0)++([.int .i64 0]:List Value)++(d.take (0+(0:Int).toNat*1+0)++([.int .i64 1]:List Value)++d.drop (0+(0:Int).toNat*1+0+1)).drop (0+(0:Int).toNat*1+0+1),(((d.take (0+(0:Int).toNat*1+0)++([.int .i64 1]:List Value)++d.drop (0+(0:Int).toNat*1+0+1)).take (0+(0:Int).toNat*1+0)++([.int .i64 0]:List Value)++(d.take (0+(0:Int).toNat*1+0)++([.int .i64 1]:List Value)++d.drop (0+(0:Int).toNat*1+0+1)).drop (0+(0:Int).toNat*1+0+1)):List Value).length⟩,⟨am,x110.spares.length,ao,4,1,bd,0⟩] p2:=nk
           have fg:Ar qz ah ai a2:=⟨_,e5,afe,nj.rowCap (i:=10) rfl⟩
           obtain⟨mi,ey,aff,nl⟩:=nk.settle (i:=11) rfl
           replace pi:=pi.mono (QU (QU fo e9) ey)
           replace pj:=pj.mono (QU (QU fo e9) ey)
           replace pk:=pk.mono (QU (QU fo e9) ey)
           replace ff:=ff.mono (QU e9 ey)
           replace fg:=fg.mono ey
           replace e4:=e4.mono (QU (QU (QU g1 fo) e9) ey)
           replace nl:Ah ⟨w,h,Az⟩ mi (Hv a f g l m p q s u ac ad ae af ag ax) [⟨B8 z aa ab,some 76⟩,⟨[],none⟩,⟨[],none⟩,⟨[],none⟩,⟨[],none⟩,⟨FF ap ay aq ar x109 av au aw,some 34⟩,⟨GI al x110 an ah a2 ai am ao,some 34⟩,⟨F2 a9 x111 bb ba bc,some 34⟩,⟨[],none⟩,⟨[],none⟩,⟨[],none⟩] [⟨z,2,2,3,1,([.int .i64 0,.int .i64 15]:List Value),0⟩,⟨aa,2,2,3,1,([.int .i64 0,.int .i64 0]:List Value),0⟩,⟨aj,3,3,3,1,([.int .i64 10,.int .i64 10,.int .i64 10]:List Value),0⟩,⟨ak,3,3,3,1,([.int .i64 10,.int .i64 10,.int .i64 10]:List Value),0⟩,⟨y,3,3,3,1,([.int .i64 10,.int .i64 10,.int .i64 10]:List Value),0⟩,⟨ab,3,3,31,1,([.slice aj 3 3,.slice ak 3 3,.slice y 3 3]:List Value),0⟩,⟨ap,ay.length,aq,3,1,a1.take (0+(0:Int).toNat*1+0)++([.int .i64 3]:List Value)++a1.drop (0+(0:Int).toNat*1+0+1),0⟩,⟨ar,x109.turns.length,av,3,1,bu,0⟩,⟨au,x109.spares.length,aw,4,1,bw,0⟩,⟨al,x110.holds.length,an,3,1,a6,(a6:List Value).length⟩,⟨ah,a2.length,ai,3,1,(d.take (0+(0:Int).toNat*1+0)++([.int .i64 1]:List Value)++d.drop (0+(0:Int).toNat*1+0+1)).take (0+(0:Int).toNat*1+0)++([.int .i64 0]:List Value)++(d.take (0+(0:Int).toNat*1+0)++([.int .i64 1]:List Value)++d.drop (0+(0:Int).toNat*1+0+1)).drop (0+(0:Int).toNat*1+0+1),(((d.take (0+(0:Int).toNat*1+0)++([.int .i64 1]:List Value)++d.drop (0+(0:Int).toNat*1+0+1)).take (0+(0:Int).toNat*1+0)++([.int .i64 0]:List Value)++(d.take (0+(0:Int).toNat*1+0)++([.int .i64 1]:List Value)++d.drop (0+(0:Int).toNat*1+0+1)).drop (0+(0:Int).toNat*1+0+1)):List Value).length⟩,⟨am,x110.spares.length,ao,4,1,bd,(bd:List Value).length⟩] p2:=nl
           have gc:Ar mi am ao x110.spares:=⟨_,e4,aff,nk.rowCap (i:=11) rfl⟩
           obtain⟨x143,ex143,H⟩:=H
           refine Dl 2 fun K hK=>?_
           refine wc [.agg (Mj jf x141 jr jg js jh jt),.agg (GI al x110 an ah a2 ai am ao)] acj nl (C0 n nl.has x141 ((Aa (Ae pi) (Aa (Aa Ac Ac) (Aa (Ae pj) (Aa (Ae pk) (Aa Ac (Aa Ac (Aa Ac Ac))))))):rep mi x141 _) (A0.mk x110.holds a2 x110.spares) ((Aa (Ae ff) (Aa (Ae fg) (Ae gc))):rep mi (A0.mk x110.holds a2 x110.spares) _) ex143) fun anp q0 ao5 wi fp lc=>?_
           replace j8:=j8.mono (QU (QU (QU (QU g1 fo) e9) ey) fp)
           obtain⟨_,_,rfl,⟨a7,a8,rfl,lg⟩,rfl⟩:=wi
           refine⟨.tup [.c (.slice a7 x143.1.length a8),.c (.int .i64 x143.2)],rfl,fun ah3 (ack:Kn 238 (Hv a f g l m p q s u ac ad ae af ag ax) [(143,.tup [.c (.slice a7 x143.1.length a8),.c (.int .i64 x143.2)]),tA 141 (Mj jf x141 jr jg js jh jt),tA 142 (GI al x110 an ah a2 ai am ao),tI 7 x134.2,tI 5 x128.2,tI 3 x122.2,tP 1 0 0] ah3)=>hK _ _ lc.plOk ?_⟩
           refine Dr [3,4,5,6,7] [7,6,5,4,3,2,0,1] [tI 12 x143.2,tS 11 a7 x143.1.length a8,tI 7 x134.2,tI 5 x128.2,tI 3 x122.2,tP 1 0 0] ack lc fun amh acl=>?_
           refine AH (by kernel_rfl) (QT (Ab (Rk 0 2 [tS 147 ab 3 3,tI 12 x143.2,tS 11 a7 x143.1.length a8,tI 7 x134.2,tI 5 x128.2,tI 3 x122.2,tP 1 0 0] acl lc fun ami acm=>?_)))
           obtain⟨x148,ex148,H⟩:=H
           obtain⟨t0,t6,ake⟩:=Ak ex148
           have ajv:=AX t0 t6
           obtain⟨az,bx⟩:=Bo lc (i:=5) rfl (b0:=0+(2:Int).toNat*1) (Nat.le_of_ble_eq_true rfl)
           have nm:=lc.addPlc (b:=az) (o:=0+(2:Int).toNat*1) (cs:=[]) (fun j c hj=>by simp at hj) rfl (by kernel_rfl) (by kernel_rfl)
           have b1:∀ (e:AG) k c,([.slice y 3 3]:List SC)[k]? = some c→(([.slice aj 3 3,.slice ak 3 3,.slice y 3 3]:List Value))[0+(2:Int).toNat*1+k]? = some (c.den e):=OG rfl fun _=>rfl
           refine A6 2 (2) rfl rfl (rfl) rfl (by decide) acm (by rfl) (by rfl) (by rfl) bx (by rfl) t0 t6 (by kernel_rfl) fun ah4 (acn:Kn 238 [(a,0),(f,g+(0:Int).toNat*1),(l,m+(1:Int).toNat*1),(p,q+(2:Int).toNat*1),(s,u+(3:Int).toNat*1),(ac,0),(ad,0),(ae,0),(af,0+(0:Int).toNat*1),(ag,0+(0:Int).toNat*1),(ax,0+(0:Int).toNat*1),(az,0+(2:Int).toNat*1)] [tP 148 11 0,tS 147 ab 3 3,tI 12 x143.2,tS 11 a7 x143.1.length a8,tI 7 x134.2,tI 5 x128.2,tI 3 x122.2,tP 1 0 0] ah4)=>?_
           refine AA 3 1 [149,12,11,7,5,3,1] [tS 149 y 3 3,tI 12 x143.2,tS 11 a7 x143.1.length a8,tI 7 x134.2,tI 5 x128.2,tI 3 x122.2,tP 1 0 0] acn (Am.peek nm.plOk nm 5 11 rfl rfl bx [.slice y 3 3] (b1 _)) (by kernel_rfl) fun amj aco=>?_
           obtain⟨x150,ex150,H⟩:=H
           obtain⟨t1,t7,af3⟩:=Ak ex150
           have n9:=AX t1 t7
           obtain⟨ai5,afu,w8⟩:=Dc (sz:=1) rfl j8 af3
           obtain rfl:=afu
           obtain⟨a0,q8⟩:=Bo nm (i:=4) rfl (b0:=0+(1:Int).toNat*1) (Nat.lt_of_lt_of_le (Nat.lt_add_of_pos_right (by decide)) (Bk (sz:=1) rfl j8 n9))
           have ady:=nm.addPlc (b:=a0) (o:=0+(1:Int).toNat*1) (cs:=[]) (fun j c hj=>by simp at hj) rfl (by kernel_rfl) (by kernel_rfl)
           have aju:∀ (e:AG) k c,([.int .i64 x150]:List SC)[k]? = some c→(([.int .i64 10,.int .i64 10,.int .i64 10]:List Value))[0+(1:Int).toNat*1+k]? = some (c.den e):=fun e k c hk=>w8 k _ (Al hk)
           refine A6 4 (1) rfl rfl (rfl) rfl (by decide) aco (by rfl) (by rfl) (by rfl) q8 (by rfl) t1 t7 (by kernel_rfl) fun u6 (acp:Kn 238 (Ek a f g l m p q s u ac ad ae af ag ax az a0) [tP 150 12 0,tS 149 y 3 3,tI 12 x143.2,tS 11 a7 x143.1.length a8,tI 7 x134.2,tI 5 x128.2,tI 3 x122.2,tP 1 0 0] u6)=>?_
           obtain⟨ht,vd,H⟩:=H
           obtain⟨aj1,aj7,ue⟩:=Cm vd
           refine wl fun K hK=>?_
           refine BO 4 12 0 (0+(1:Int).toNat*1) (.c (.int .i64 16)) acp ady rfl rfl (by rfl) (by rfl) rfl rfl q8 rfl (by kernel_rfl) (Bk (sz:=1) rfl j8 n9) fun ao6 acq ka=>?_
           have e6:Af q0 ht ([.int .i64 10,.int .i64 16,.int .i64 10]:List Value):=by rw [ue]; exact Em (sz:=1) rfl j8 n9 (Ac:rep q0 (16:Int) _)
           have tv:3=ht.length:=by rw [ue]; rfl
           refine hK _ _ ?_
           have acr:Kn 238 (Ek a f g l m p q s u ac ad ae af ag ax az a0) [tI 12 x143.2,tS 11 a7 x143.1.length a8,tI 7 x134.2,tI 5 x128.2,tI 3 x122.2,tP 1 0 0] u6:=acq.kp
           refine wf (QT (Ao (by kernel_rfl) ?_))
           replace ka:=ka.drew
           refine At [] (Ek a f g l m p q s u ac ad ae af ag ax az a0) [⟨B8 z aa ab,some 76⟩,⟨[],none⟩,⟨[],none⟩,⟨[],none⟩,⟨[],none⟩,⟨FF ap ay aq ar x109 av au aw,some 34⟩,⟨GI al x110 an ah a2 ai am ao,some 34⟩,⟨F2 a9 x111 bb ba bc,some 34⟩,⟨[],none⟩,⟨[],none⟩,⟨[],none⟩,⟨[.slice y 3 3],none⟩,⟨[],none⟩] ?_
           refine FB [2] [2] [154,12,11,7,5,3] [tA 154 (B8 z aa ab),tI 12 x143.2,tS 11 a7 x143.1.length a8,tI 7 x134.2,tI 5 x128.2,tI 3 x122.2] (fun _ _ _ _ _ h=>h) acr (Am.peek ka.plOk ka 5 11 rfl rfl bx [.slice y 3 3] (b1 _)) (by kernel_rfl) (by rfl) (by kernel_rfl) fun amk acs=>?_
           obtain⟨x152,ex152,H⟩:=H
           refine Dl 0 fun K hK=>?_
           refine wc [] acs ka (Bi n ka.has  ex152) fun anq ajm ao7 wk fa nn=>?_
           obtain⟨_,rfl,⟨_,_,rfl,⟨h4,im,rfl,pl⟩,⟨_,_,rfl,⟨_,_,rfl,rfl,rfl⟩,⟨_,_,rfl,⟨h5,io,rfl,pn⟩,⟨_,_,rfl,⟨h6,ip,rfl,po⟩,⟨_,_,rfl,rfl,⟨_,_,rfl,rfl,⟨_,_,rfl,rfl,rfl⟩⟩⟩⟩⟩⟩⟩⟩:=wk
           refine⟨.one (.agg (KE h4 x152 im h5 io h6 ip)),rfl,fun ah5 (act:Kn 238 (Ek a f g l m p q s u ac ad ae af ag ax az a0) [tA 152 (KE h4 x152 im h5 io h6 ip),tA 154 (B8 z aa ab),tI 12 x143.2,tS 11 a7 x143.1.length a8,tI 7 x134.2,tI 5 x128.2,tI 3 x122.2] ah5)=>hK _ _ (Am.peek nn.plOk nn 5 11 rfl rfl bx [.slice y 3 3] (b1 _)) ?_⟩
           obtain⟨x153,ex153,H⟩:=H
           refine Dl 1 fun K hK=>?_
           refine wc [] act nn (Eo n nn.has  ex153) fun anr ajn kc wm ej np=>?_
           obtain⟨_,rfl,⟨_,_,rfl,⟨lv,l9,rfl,pp⟩,⟨_,_,rfl,⟨lw,ma,rfl,pq⟩,⟨lx,mb,rfl,pr⟩⟩⟩⟩:=wm
           refine⟨.one (.agg [.slice lv x153.holds.length l9,.slice lw x153.turns.length ma,.slice lx x153.spares.length mb]),rfl,fun ah6 (acu:Kn 238 (Ek a f g l m p q s u ac ad ae af ag ax az a0) [tA 153 [.slice lv x153.holds.length l9,.slice lw x153.turns.length ma,.slice lx x153.spares.length mb],tA 152 (KE h4 x152 im h5 io h6 ip),tA 154 (B8 z aa ab),tI 12 x143.2,tS 11 a7 x143.1.length a8,tI 7 x134.2,tI 5 x128.2,tI 3 x122.2] ah6)=>hK _ _ (Am.peek np.plOk np 5 11 rfl rfl bx [.slice y 3 3] (b1 _)) ?_⟩
           obtain⟨q1,d7,afg,nq⟩:=np.settle (i:=0) rfl
           replace ez:=ez.mono (QU (QU (QU (QU (QU (QU (QU g1 fo) e9) ey) fp) fa) ej) d7)
           replace nq:Ah ⟨w,h,Az⟩ q1 (Ek a f g l m p q s u ac ad ae af ag ax az a0) (J2 z aa ab ap ay aq ar x109 av au aw al x110 an ah a2 ai am ao a9 x111 bb ba bc) [⟨z,2,2,3,1,([.int .i64 0,.int .i64 15]:List Value),2⟩,⟨aa,2,2,3,1,([.int .i64 0,.int .i64 0]:List Value),0⟩,⟨aj,3,3,3,1,([.int .i64 10,.int .i64 10,.int .i64 10]:List Value),0⟩,⟨ak,3,3,3,1,([.int .i64 10,.int .i64 10,.int .i64 10]:List Value),0⟩,⟨y,3,3,3,1,([.int .i64 10,.int .i64 16,.int .i64 10]:List Value),0⟩,⟨ab,3,3,31,1,([.slice aj 3 3,.slice ak 3 3,.slice y 3 3]:List Value),0⟩,⟨ap,ay.length,aq,3,1,a1.take (0+(0:Int).toNat*1+0)++([.int .i64 3]:List Value)++a1.drop (0+(0:Int).toNat*1+0+1),0⟩,⟨ar,x109.turns.length,av,3,1,bu,0⟩,⟨au,x109.spares.length,aw,4,1,bw,0⟩,⟨al,x110.holds.length,an,3,1,a6,(a6:List Value).length⟩,⟨ah,a2.length,ai,3,1,(d.take (0+(0:Int).toNat*1+0)++([.int .i64 1]:List Value)++d.drop (0+(0:Int).toNat*1+0+1)).take (0+(0:Int).toNat*1+0)++([.int .i64 0]:List Value)++(d.take (0+(0:Int).toNat*1+0)++([.int .i64 1]:List Value)++d.drop (0+(0:Int).toNat*1+0+1)).drop (0+(0:Int).toNat*1+0+1),(((d.take (0+(0:Int).toNat*1+0)++([.int .i64 1]:List Value)++d.drop (0+(0:Int).toNat*1+0+1)).take (0+(0:Int).toNat*1+0)++([.int .i64 0]:List Value)++(d.take (0+(0:Int).toNat*1+0)++([.int .i64 1]:List Value)++d.drop (0+(0:Int).toNat*1+0+1)).drop (0+(0:Int).toNat*1+0+1)):List Value).length⟩,⟨am,x110.spares.length,ao,4,1,bd,(bd:List Value).length⟩] kc:=nq
           have fh:Ar q1 z 2 ([0,15]:List Int):=⟨_,ez,afg,np.rowCap (i:=0) rfl⟩
           obtain⟨q2,d3,afh,nr⟩:=nq.settle (i:=1) rfl
           replace e0:=e0.mono (QU (QU (QU (QU (QU (QU (QU (QU g1 fo) e9) ey) fp) fa) ej) d7) d3)
           replace nr:Ah ⟨w,h,Az⟩ q2 (Ek a f g l m p q s u ac ad ae af ag ax az a0) (J2 z aa ab ap ay aq ar x109 av au aw al x110 an ah a2 ai am ao a9 x111 bb ba bc) [⟨z,2,2,3,1,([.int .i64 0,.int .i64 15]:List Value),2⟩,⟨aa,2,2,3,1,([.int .i64 0,.int .i64 0]:List Value),2⟩,⟨aj,3,3,3,1,([.int .i64 10,.int .i64 10,.int .i64 10]:List Value),0⟩,⟨ak,3,3,3,1,([.int .i64 10,.int .i64 10,.int .i64 10]:List Value),0⟩,⟨y,3,3,3,1,([.int .i64 10,.int .i64 16,.int .i64 10]:List Value),0⟩,⟨ab,3,3,31,1,([.slice aj 3 3,.slice ak 3 3,.slice y 3 3]:List Value),0⟩,⟨ap,ay.length,aq,3,1,a1.take (0+(0:Int).toNat*1+0)++([.int .i64 3]:List Value)++a1.drop (0+(0:Int).toNat*1+0+1),0⟩,⟨ar,x109.turns.length,av,3,1,bu,0⟩,⟨au,x109.spares.length,aw,4,1,bw,0⟩,⟨al,x110.holds.length,an,3,1,a6,(a6:List Value).length⟩,⟨ah,a2.length,ai,3,1,(d.take (0+(0:Int).toNat*1+0)++([.int .i64 1]:List Value)++d.drop (0+(0:Int).toNat*1+0+1)).take (0+(0:Int).toNat*1+0)++([.int .i64 0]:List Value)++(d.take (0+(0:Int).toNat*1+0)++([.int .i64 1]:List Value)++d.drop (0+(0:Int).toNat*1+0+1)).drop (0+(0:Int).toNat*1+0+1),(((d.take (0+(0:Int).toNat*1+0)++([.int .i64 1]:List Value)++d.drop (0+(0:Int).toNat*1+0+1)).take (0+(0:Int).toNat*1+0)++([.int .i64 0]:List Value)++(d.take (0+(0:Int).toNat*1+0)++([.int .i64 1]:List Value)++d.drop (0+(0:Int).toNat*1+0+1)).drop (0+(0:Int).toNat*1+0+1)):List Value).length⟩,⟨am,x110.spares.length,ao,4,1,bd,(bd:List Value).length⟩] kc:=nr
           have fi:Ar q2 aa 2 ([0,0]:List Int):=⟨_,e0,afh,nq.rowCap (i:=1) rfl⟩
           obtain⟨q3,dz,afi,ns⟩:=nr.settle (i:=2) rfl
           replace e1:=e1.mono (QU (QU (QU (QU (QU (QU (QU (QU (QU g1 fo) e9) ey) fp) fa) ej) d7) d3) dz)
           replace ns:Ah ⟨w,h,Az⟩ q3 (Ek a f g l m p q s u ac ad ae af ag ax az a0) (J2 z aa ab ap ay aq ar x109 av au aw al x110 an ah a2 ai am ao a9 x111 bb ba bc) [⟨z,2,2,3,1,([.int .i64 0,.int .i64 15]:List Value),2⟩,⟨aa,2,2,3,1,([.int .i64 0,.int .i64 0]:List Value),2⟩,⟨aj,3,3,3,1,([.int .i64 10,.int .i64 10,.int .i64 10]:List Value),3⟩,⟨ak,3,3,3,1,([.int .i64 10,.int .i64 10,.int .i64 10]:List Value),0⟩,⟨y,3,3,3,1,([.int .i64 10,.int .i64 16,.int .i64 10]:List Value),0⟩,⟨ab,3,3,31,1,([.slice aj 3 3,.slice ak 3 3,.slice y 3 3]:List Value),0⟩,⟨ap,ay.length,aq,3,1,a1.take (0+(0:Int).toNat*1+0)++([.int .i64 3]:List Value)++a1.drop (0+(0:Int).toNat*1+0+1),0⟩,⟨ar,x109.turns.length,av,3,1,bu,0⟩,⟨au,x109.spares.length,aw,4,1,bw,0⟩,⟨al,x110.holds.length,an,3,1,a6,(a6:List Value).length⟩,⟨ah,a2.length,ai,3,1,(d.take (0+(0:Int).toNat*1+0)++([.int .i64 1]:List Value)++d.drop (0+(0:Int).toNat*1+0+1)).take (0+(0:Int).toNat*1+0)++([.int .i64 0]:List Value)++(d.take (0+(0:Int).toNat*1+0)++([.int .i64 1]:List Value)++d.drop (0+(0:Int).toNat*1+0+1)).drop (0+(0:Int).toNat*1+0+1),(((d.take (0+(0:Int).toNat*1+0)++([.int .i64 1]:List Value)++d.drop (0+(0:Int).toNat*1+0+1)).take (0+(0:Int).toNat*1+0)++([.int .i64 0]:List Value)++(d.take (0+(0:Int).toNat*1+0)++([.int .i64 1]:List Value)++d.drop (0+(0:Int).toNat*1+0+1)).drop (0+(0:Int).toNat*1+0+1)):List Value).length⟩,⟨am,x110.spares.length,ao,4,1,bd,(bd:List Value).length⟩] kc:=ns
           have fj:Ar q3 aj 3 ([10,10,10]:List Int):=⟨_,e1,afi,nr.rowCap (i:=2) rfl⟩
           obtain⟨q4,dv,afj,nt⟩:=ns.settle (i:=3) rfl
           replace e2:=e2.mono (QU (QU (QU (QU (QU (QU (QU (QU (QU (QU g1 fo) e9) ey) fp) fa) ej) d7) d3) dz) dv)
           replace nt:Ah ⟨w,h,Az⟩ q4 (Ek a f g l m p q s u ac ad ae af ag ax az a0) (J2 z aa ab ap ay aq ar x109 av au aw al x110 an ah a2 ai am ao a9 x111 bb ba bc) [⟨z,2,2,3,1,([.int .i64 0,.int .i64 15]:List Value),2⟩,⟨aa,2,2,3,1,([.int .i64 0,.int .i64 0]:List Value),2⟩,⟨aj,3,3,3,1,([.int .i64 10,.int .i64 10,.int .i64 10]:List Value),3⟩,⟨ak,3,3,3,1,([.int .i64 10,.int .i64 10,.int .i64 10]:List Value),3⟩,⟨y,3,3,3,1,([.int .i64 10,.int .i64 16,.int .i64 10]:List Value),0⟩,⟨ab,3,3,31,1,([.slice aj 3 3,.slice ak 3 3,.slice y 3 3]:List Value),0⟩,⟨ap,ay.length,aq,3,1,a1.take (0+(0:Int).toNat*1+0)++([.int .i64 3]:List Value)++a1.drop (0+(0:Int).toNat*1+0+1),0⟩,⟨ar,x109.turns.length,av,3,1,bu,0⟩,⟨au,x109.spares.length,aw,4,1,bw,0⟩,⟨al,x110.holds.length,an,3,1,a6,(a6:List Value).length⟩,⟨ah,a2.length,ai,3,1,(d.take (0+(0:Int).toNat*1+0)++([.int .i64 1]:List Value)++d.drop (0+(0:Int).toNat*1+0+1)).take (0+(0:Int).toNat*1+0)++([.int .i64 0]:List Value)++(d.take (0+(0:Int).toNat*1+0)++([.int .i64 1]:List Value)++d.drop (0+(0:Int).toNat*1+0+1)).drop (0+(0:Int).toNat*1+0+1),(((d.take (0+(0:Int).toNat*1+0)++([.int .i64 1]:List Value)++d.drop (0+(0:Int).toNat*1+0+1)).take (0+(0:Int).toNat*1+0)++([.int .i64 0]:List Value)++(d.take (0+(0:Int).toNat*1+0)++([.int .i64 1]:List Value)++d.drop (0+(0:Int).toNat*1+0+1)).drop (0+(0:Int).toNat*1+0+1)):List Value).length⟩,⟨am,x110.spares.length,ao,4,1,bd,(bd:List Value).length⟩] kc:=nt
           have fk:Ar q4 ak 3 ([10,10,10]:List Int):=⟨_,e2,afj,ns.rowCap (i:=3) rfl⟩
           obtain⟨jz,ds,afk,nu⟩:=nt.settle (i:=4) rfl
           replace fj:=fj.mono (QU dv ds)
           replace fk:=fk.mono ds
           replace e6:=e6.mono (QU (QU (QU (QU (QU (QU fa ej) d7) d3) dz) dv) ds)
           replace nu:Ah ⟨w,h,Az⟩ jz (Ek a f g l m p q s u ac ad ae af ag ax az a0) (J2 z aa ab ap ay aq ar x109 av au aw al x110 an ah a2 ai am ao a9 x111 bb ba bc) [⟨z,2,2,3,1,([.int .i64 0,.int .i64 15]:List Value),2⟩,⟨aa,2,2,3,1,([.int .i64 0,.int .i64 0]:List Value),2⟩,⟨aj,3,3,3,1,([.int .i64 10,.int .i64 10,.int .i64 10]:List Value),3⟩,⟨ak,3,3,3,1,([.int .i64 10,.int .i64 10,.int .i64 10]:List Value),3⟩,⟨y,3,3,3,1,([.int .i64 10,.int .i64 16,.int .i64 10]:List Value),3⟩,⟨ab,3,3,31,1,([.slice aj 3 3,.slice ak 3 3,.slice y 3 3]:List Value),0⟩,⟨ap,ay.length,aq,3,1,a1.take (0+(0:Int).toNat*1+0)++([.int .i64 3]:List Value)++a1.drop (0+(0:Int).toNat*1+0+1),0⟩,⟨ar,x109.turns.length,av,3,1,bu,0⟩,⟨au,x109.spares.length,aw,4,1,bw,0⟩,⟨al,x110.holds.length,an,3,1,a6,(a6:List Value).length⟩,⟨ah,a2.length,ai,3,1,(d.take (0+(0:Int).toNat*1+0)++([.int .i64 1]:List Value)++d.drop (0+(0:Int).toNat*1+0+1)).take (0+(0:Int).toNat*1+0)++([.int .i64 0]:List Value)++(d.take (0+(0:Int).toNat*1+0)++([.int .i64 1]:List Value)++d.drop (0+(0:Int).toNat*1+0+1)).drop (0+(0:Int).toNat*1+0+1),(((d.take (0+(0:Int).toNat*1+0)++([.int .i64 1]:List Value)++d.drop (0+(0:Int).toNat*1+0+1)).take (0+(0:Int).toNat*1+0)++([.int .i64 0]:List Value)++(d.take (0+(0:Int).toNat*1+0)++([.int .i64 1]:List Value)++d.drop (0+(0:Int).toNat*1+0+1)).drop (0+(0:Int).toNat*1+0+1)):List Value).length⟩,⟨am,x110.spares.length,ao,4,1,bd,(bd:List Value).length⟩] kc:=nu
           have gd:Ar jz y 3 ht:=⟨_,e6,afk,Nat.le_trans (Nat.le_of_eq tv.symm) (nt.rowCap (i:=4) rfl)⟩
           have e7:Af jz ([([10,10,10]:List Int),([10,10,10]:List Int),ht]:List (List Int)) ([.slice aj 3 3,.slice ak 3 3,.slice y 3 3]:List Value):=⟨_,_,rfl,(Ae fj:rep jz (([10,10,10]:List Int):List Int) _),⟨_,_,rfl,(Ae fk:rep jz (([10,10,10]:List Int):List Int) _),⟨_,_,rfl,(by have hs:=Ae gd; rw [← tv] at hs; exact hs:rep jz (ht:List Int) _),rfl⟩⟩⟩
           obtain⟨kf,dl,afl,nv⟩:=nu.settle (i:=5) rfl
           replace pl:=pl.mono (QU (QU (QU (QU (QU (QU ej d7) d3) dz) dv) ds) dl)
           replace pn:=pn.mono (QU (QU (QU (QU (QU (QU ej d7) d3) dz) dv) ds) dl)
           replace po:=po.mono (QU (QU (QU (QU (QU (QU ej d7) d3) dz) dv) ds) dl)
           replace pp:=pp.mono (QU (QU (QU (QU (QU d7 d3) dz) dv) ds) dl)
           replace pq:=pq.mono (QU (QU (QU (QU (QU d7 d3) dz) dv) ds) dl)
           replace pr:=pr.mono (QU (QU (QU (QU (QU d7 d3) dz) dv) ds) dl)
           replace fh:=fh.mono (QU (QU (QU (QU d3 dz) dv) ds) dl)
           replace fi:=fi.mono (QU (QU (QU dz dv) ds) dl)
           replace e7:=e7.mono dl
           replace nv:Ah ⟨w,h,Az⟩ kf (Ek a f g l m p q s u ac ad ae af ag ax az a0) (J2 z aa ab ap ay aq ar x109 av au aw al x110 an ah a2 ai am ao a9 x111 bb ba bc) [⟨z,2,2,3,1,([.int .i64 0,.int .i64 15]:List Value),2⟩,⟨aa,2,2,3,1,([.int .i64 0,.int .i64 0]:List Value),2⟩,⟨aj,3,3,3,1,([.int .i64 10,.int .i64 10,.int .i64 10]:List Value),3⟩,⟨ak,3,3,3,1,([.int .i64 10,.int .i64 10,.int .i64 10]:List Value),3⟩,⟨y,3,3,3,1,([.int .i64 10,.int .i64 16,.int .i64 10]:List Value),3⟩,⟨ab,3,3,31,1,([.slice aj 3 3,.slice ak 3 3,.slice y 3 3]:List Value),3⟩,⟨ap,ay.length,aq,3,1,a1.take (0+(0:Int).toNat*1+0)++([.int .i64 3]:List Value)++a1.drop (0+(0:Int).toNat*1+0+1),0⟩,⟨ar,x109.turns.length,av,3,1,bu,0⟩,⟨au,x109.spares.length,aw,4,1,bw,0⟩,⟨al,x110.holds.length,an,3,1,a6,(a6:List Value).length⟩,⟨ah,a2.length,ai,3,1,(d.take (0+(0:Int).toNat*1+0)++([.int .i64 1]:List Value)++d.drop (0+(0:Int).toNat*1+0+1)).take (0+(0:Int).toNat*1+0)++([.int .i64 0]:List Value)++(d.take (0+(0:Int).toNat*1+0)++([.int .i64 1]:List Value)++d.drop (0+(0:Int).toNat*1+0+1)).drop (0+(0:Int).toNat*1+0+1),(((d.take (0+(0:Int).toNat*1+0)++([.int .i64 1]:List Value)++d.drop (0+(0:Int).toNat*1+0+1)).take (0+(0:Int).toNat*1+0)++([.int .i64 0]:List Value)++(d.take (0+(0:Int).toNat*1+0)++([.int .i64 1]:List Value)++d.drop (0+(0:Int).toNat*1+0+1)).drop (0+(0:Int).toNat*1+0+1)):List Value).length⟩,⟨am,x110.spares.length,ao,4,1,bd,(bd:List Value).length⟩] kc:=nv
           have gf:Ar kf ab 3 ([([10,10,10]:List Int),([10,10,10]:List Int),ht]:List (List Int)):=⟨_,e7,afl,nu.rowCap (i:=5) rfl⟩
           obtain⟨x155,ex155,H⟩:=H
           refine Dl 3 fun K hK=>?_
           refine wc [.agg (KE h4 x152 im h5 io h6 ip),.agg [.slice lv x153.holds.length l9,.slice lw x153.turns.length ma,.slice lx x153.spares.length mb],.agg (B8 z aa ab)] acu nv (GH n nv.has x152 ((Aa (Ae pl) (Aa (Aa Ac Ac) (Aa (Ae pn) (Aa (Ae po) (Aa Ac (Aa Ac (Aa Ac Ac))))))):rep kf x152 _) x153 ((Aa (Ae pp) (Aa (Ae pq) (Ae pr))):rep kf x153 _) (AB.mk ([0,15]:List Int) ([0,0]:List Int) ([([10,10,10]:List Int),([10,10,10]:List Int),ht]:List (List Int))) ((Aa (Ae fh) (Aa (Ae fi) (Ae gf))):rep kf (AB.mk ([0,15]:List Int) ([0,0]:List Int) ([([10,10,10]:List Int),([10,10,10]:List Int),ht]:List (List Int))) _) ex155) fun ans ajo ao8 wn d4 kb=>?_
           obtain⟨_,_,rfl,⟨p7,qb,rfl,akd⟩,rfl⟩:=wn
           refine⟨.tup [.c (.slice p7 x155.1.length qb),.c (.int .i64 x155.2)],rfl,fun ah7 (acv:Kn 238 (Ek a f g l m p q s u ac ad ae af ag ax az a0) [(155,.tup [.c (.slice p7 x155.1.length qb),.c (.int .i64 x155.2)]),tA 153 [.slice lv x153.holds.length l9,.slice lw x153.turns.length ma,.slice lx x153.spares.length mb],tA 152 (KE h4 x152 im h5 io h6 ip),tA 154 (B8 z aa ab),tI 12 x143.2,tS 11 a7 x143.1.length a8,tI 7 x134.2,tI 5 x128.2,tI 3 x122.2] ah7)=>hK _ _ (Am.peek kb.plOk kb 5 11 rfl rfl bx [.slice y 3 3] (b1 _)) ?_⟩
           refine FB [4,5,6,7,8] [8,7,6,5,4,3,1,0,2] [14,12,11,7,5,3] (Bl x155 x143 a7 a8 x134 x128 x122) (fun _ _ _ _ _ h=>h) acv (Am.peek kb.plOk kb 5 11 rfl rfl bx [.slice y 3 3] (b1 _)) (by kernel_rfl) (by rfl) (by kernel_rfl) fun aml acw=>?_
           refine AH (by kernel_rfl) (QT (Ab ?_))
           obtain⟨x159,ex159,H⟩:=H
           refine wl fun K hK=>?_
           refine wc [] acw kb (Bi n kb.has  ex159) fun ant ajp ao9 wo d5 tr=>?_
           obtain⟨_,rfl,⟨_,_,rfl,⟨h7,iq,rfl,pu⟩,⟨_,_,rfl,⟨_,_,rfl,rfl,rfl⟩,⟨_,_,rfl,⟨h8,ir,rfl,pv⟩,⟨_,_,rfl,⟨h9,ia,rfl,ov⟩,⟨_,_,rfl,rfl,⟨_,_,rfl,rfl,⟨_,_,rfl,rfl,rfl⟩⟩⟩⟩⟩⟩⟩⟩:=wo
           refine⟨.one (.agg (KF h7 x159 iq h8 ir h9 ia)),rfl,fun af5 (xa:Kn 238 (Ek a f g l m p q s u ac ad ae af ag ax az a0) ((tA 159 (KF h7 x159 iq h8 ir h9 ia))::(Bl x155 x143 a7 a8 x134 x128 x122)) af5)=>hK _ _ ?_⟩
           obtain⟨x160,ex160,H⟩:=H
           refine wl fun K hK=>?_
           refine wc [] xa tr (Eo n tr.has  ex160) fun amm qc anu ve dp sx=>?_
           replace pu:=pu.mono dp
           replace pv:=pv.mono dp
           replace ov:=ov.mono dp
           obtain⟨_,rfl,⟨_,_,rfl,⟨li,lz,rfl,aec⟩,⟨_,_,rfl,⟨lj,l0,rfl,aed⟩,⟨lk,l1,rfl,aee⟩⟩⟩⟩:=ve
           refine⟨.one (.agg [.slice li x160.holds.length lz,.slice lj x160.turns.length l0,.slice lk x160.spares.length l1]),rfl,fun af6 (xb:Kn 238 (Ek a f g l m p q s u ac ad ae af ag ax az a0) ((tA 160 [.slice li x160.holds.length lz,.slice lj x160.turns.length l0,.slice lk x160.spares.length l1])::(tA 159 (KF h7 x159 iq h8 ir h9 ia))::(Bl x155 x143 a7 a8 x134 x128 x122)) af6)=>hK _ _ ?_⟩
           refine wl fun K hK=>?_
           refine wc [.agg (KF h7 x159 iq h8 ir h9 ia),.agg [.slice li x160.holds.length lz,.slice lj x160.turns.length l0,.slice lk x160.spares.length l1],.c (.int .i64 4)] xb sx (J0 n sx.has x159 ((Aa (Ae pu) (Aa (Aa Ac Ac) (Aa (Ae pv) (Aa (Ae ov) (Aa Ac (Aa Ac (Aa Ac Ac))))))):rep qc x159 _) x160 ((Aa (Ae aec) (Aa (Ae aed) (Ae aee))):rep qc x160 _) 4 H) fun amn ai6 anv vf d1 oa=>?_
           obtain⟨x161,H,⟨_,_,rfl,⟨_,rfl,⟨_,_,rfl,⟨c7,dd,rfl,go⟩,⟨_,_,rfl,⟨c8,de,rfl,gp⟩,⟨c9,df,rfl,gq⟩⟩⟩⟩,rfl⟩⟩:=vf
           refine⟨.tup [.agg (Hs c7 x161 dd c8 de c9 df),.c (.int .i64 x161.2)],rfl,fun af7 (xc:Kn 238 (Ek a f g l m p q s u ac ad ae af ag ax az a0) ((161,.tup [.agg (Hs c7 x161 dd c8 de c9 df),.c (.int .i64 x161.2)])::(tA 160 [.slice li x160.holds.length lz,.slice lj x160.turns.length l0,.slice lk x160.spares.length l1])::(tA 159 (KF h7 x159 iq h8 ir h9 ia))::(Bl x155 x143 a7 a8 x134 x128 x122)) af7)=>hK _ _ ?_⟩
           refine AA 3 3 [163,162,14,12,11,7,5,3] ((tI 163 x161.2)::(tA 162 (Hs c7 x161 dd c8 de c9 df))::(Bl x155 x143 a7 a8 x134 x128 x122)) xc (Am.peek oa.plOk oa 5 11 rfl rfl bx [.slice y 3 3] (b1 _)) (by kernel_rfl) fun akj xd=>?_
           refine wl fun K hK=>?_
           refine wa Ly xd oa fun a3 af8 anw (xe:Kn 238 [(a,0),(f,g+(0:Int).toNat*1),(l,m+(1:Int).toNat*1),(p,q+(2:Int).toNat*1),(s,u+(3:Int).toNat*1),(ac,0),(ad,0),(ae,0),(af,0+(0:Int).toNat*1),(ag,0+(0:Int).toNat*1),(ax,0+(0:Int).toNat*1),(az,0+(2:Int).toNat*1),(a0,0+(1:Int).toNat*1),(a3,0)] ((tP 15 13 0)::(tI 163 x161.2)::(tA 162 (Hs c7 x161 dd c8 de c9 df))::(Bl x155 x143 a7 a8 x134 x128 x122)) af8) acx=>hK _ _ ?_
           refine wl fun K hK=>?_
           refine Ea 13 0 (.agg (Hs c7 x161 dd c8 de c9 df)) (Hs c7 x161 dd c8 de c9 df) xe acx fun anx xf mn=>hK _ _ ?_
           refine AA 8 1 [16,14,12,11,7,5,3] ((tI 16 x161.2)::(Bl x155 x143 a7 a8 x134 x128 x122)) xf (Am.peek mn.plOk mn 5 11 rfl rfl bx [.slice y 3 3] (b1 _)) (by kernel_rfl) fun akk xg=>?_
           refine wf (QT (Ab ?_))
           obtain⟨x164,ex164,H⟩:=H
           refine wl fun K hK=>?_
           refine wc [] xg mn (Bi n mn.has  ex164) fun amo wp any vg dq acy=>?_
           obtain⟨_,rfl,⟨_,_,rfl,⟨cv,cz,rfl,f3⟩,⟨_,_,rfl,⟨_,_,rfl,rfl,rfl⟩,⟨_,_,rfl,⟨cw,c0,rfl,f4⟩,⟨_,_,rfl,⟨cx,c1,rfl,f5⟩,⟨_,_,rfl,rfl,⟨_,_,rfl,rfl,⟨_,_,rfl,rfl,rfl⟩⟩⟩⟩⟩⟩⟩⟩:=vg
           refine⟨.one (.agg (KI cv x164 cz cw c0 cx c1)),rfl,fun af9 (xh:Kn 238 [(a,0),(f,g+(0:Int).toNat*1),(l,m+(1:Int).toNat*1),(p,q+(2:Int).toNat*1),(s,u+(3:Int).toNat*1),(ac,0),(ad,0),(ae,0),(af,0+(0:Int).toNat*1),(ag,0+(0:Int).toNat*1),(ax,0+(0:Int).toNat*1),(az,0+(2:Int).toNat*1),(a0,0+(1:Int).toNat*1),(a3,0)] ((tA 164 (KI cv x164 cz cw c0 cx c1))::(tI 16 x161.2)::(Bl x155 x143 a7 a8 x134 x128 x122)) af9)=>hK _ _ ?_⟩
           refine wl fun K hK=>?_
           refine wa Ih xh acy fun a4 uf anz (xi:Kn 238 (Ml a f g l m p q s u ac ad ae af ag ax az a0 a3 a4) ((tP 17 14 0)::(tA 164 (KI cv x164 cz cw c0 cx c1))::(tI 16 x161.2)::(Bl x155 x143 a7 a8 x134 x128 x122)) uf) acz=>hK _ _ ?_
           refine wl fun K hK=>?_
           refine Ea 14 0 (.agg (KI cv x164 cz cw c0 cx c1)) (KI cv x164 cz cw c0 cx c1) xi acz fun an0 xj ob=>hK _ _ ?_
           have xk:Kn 238 (Ml a f g l m p q s u ac ad ae af ag ax az a0 a3 a4) ((tP 17 14 0)::(tI 16 x161.2)::(Bl x155 x143 a7 a8 x134 x128 x122)) uf:=xj.kp
           refine wf (QT (Ab (AA 0 1 [165,17,16,14,12,11,7,5,3] ((tP 165 14 6)::(tP 17 14 0)::(tI 16 x161.2)::(Bl x155 x143 a7 a8 x134 x128 x122)) xk (Am.peek ob.plOk ob 5 11 rfl rfl bx [.slice y 3 3] (b1 _)) (by kernel_rfl) fun aga xl=>?_)))
           refine wl fun K hK=>?_
           refine Ea 14 6 (.c (.int .i64 34)) (J1 cv x164 cz cw c0 cx c1) xl ob fun an1 xm mo=>hK _ _ ?_
           have xn:Kn 238 (Ml a f g l m p q s u ac ad ae af ag ax az a0 a3 a4) ((tP 17 14 0)::(tI 16 x161.2)::(Bl x155 x143 a7 a8 x134 x128 x122)) aga:=xm.kp
           refine wf (QT (Ab (AA 0 1 [167,16,14,12,11,7,5,3] ((tA 167 (J1 cv x164 cz cw c0 cx c1))::(tI 16 x161.2)::(Bl x155 x143 a7 a8 x134 x128 x122)) xn (Am.peek mo.plOk mo 5 11 rfl rfl bx [.slice y 3 3] (b1 _)) (by kernel_rfl) fun akl xo=>?_)))
           obtain⟨x168,ex168,H⟩:=H
           refine wl fun K hK=>?_
           refine wc [.agg (J1 cv x164 cz cw c0 cx c1)] xo mo (GO n mo.has (Ag.mk x164.legs x164.turn x164.buses x164.spares x164.unit 34 x164.fr x164.to_) ((Aa (Ae f3) (Aa (Aa Ac Ac) (Aa (Ae f4) (Aa (Ae f5) (Aa Ac (Aa Ac (Aa Ac Ac))))))):rep wp (Ag.mk x164.legs x164.turn x164.buses x164.spares x164.unit 34 x164.fr x164.to_) _) ex168) fun amp ai7 an2 vh c6 oc=>?_
           obtain⟨_,_,rfl,⟨_,rfl,⟨_,_,rfl,⟨da,dg,rfl,gr⟩,⟨_,_,rfl,⟨db,dh,rfl,gs⟩,⟨dc,di,rfl,gu⟩⟩⟩⟩,rfl⟩:=vh
           refine⟨.tup [.agg (Ht da x168 dg db dh dc di),.c (.int .i64 x168.2)],rfl,fun agb (xp:Kn 238 (Ml a f g l m p q s u ac ad ae af ag ax az a0 a3 a4) ((168,.tup [.agg (Ht da x168 dg db dh dc di),.c (.int .i64 x168.2)])::(tA 167 (J1 cv x164 cz cw c0 cx c1))::(tI 16 x161.2)::(Bl x155 x143 a7 a8 x134 x128 x122)) agb)=>hK _ _ ?_⟩
           refine AA 2 3 [170,169,16,14,12,11,7,5,3] ((tI 170 x168.2)::(tA 169 (Ht da x168 dg db dh dc di))::(tI 16 x161.2)::(Bl x155 x143 a7 a8 x134 x128 x122)) xp (Am.peek oc.plOk oc 5 11 rfl rfl bx [.slice y 3 3] (b1 _)) (by kernel_rfl) fun akm xq=>?_
           refine wl fun K hK=>?_
           refine wa Ly xq oc fun a5 agc an4 (xr:Kn 238 (KJ a f g l m p q s u ac ad ae af ag ax az a0 a3 a4 a5) ((tP 18 15 0)::(tI 170 x168.2)::(tA 169 (Ht da x168 dg db dh dc di))::(tI 16 x161.2)::(Bl x155 x143 a7 a8 x134 x128 x122)) agc) ac0=>hK _ _ ?_
           refine wl fun K hK=>?_
           refine Ea 15 0 (.agg (Ht da x168 dg db dh dc di)) (Ht da x168 dg db dh dc di) xr ac0 fun an5 xs mq=>hK _ _ ?_
           refine AA 7 1 [19,16,14,12,11,7,5,3] ((tI 19 x168.2)::(tI 16 x161.2)::(Bl x155 x143 a7 a8 x134 x128 x122)) xs (Am.peek mq.plOk mq 5 11 rfl rfl bx [.slice y 3 3] (b1 _)) (by kernel_rfl) fun akn xt=>?_
           refine wf (QT (Ab ?_))
           obtain⟨x171,ex171,H⟩:=H
           refine wl fun K hK=>?_
           refine wc [] xt mq (Bi n mq.has  ex171) fun amq ai8 an6 vi c3 sy=>?_
           obtain⟨_,rfl,⟨_,_,rfl,⟨cj,cl,rfl,fb⟩,⟨_,_,rfl,⟨_,_,rfl,rfl,rfl⟩,⟨_,_,rfl,⟨gg,gh,rfl,aj8⟩,⟨_,_,rfl,⟨ck,cm,rfl,fc⟩,⟨_,_,rfl,rfl,⟨_,_,rfl,rfl,⟨_,_,rfl,rfl,rfl⟩⟩⟩⟩⟩⟩⟩⟩:=vi
           refine⟨.one (.agg (Gz cj x171 cl gg gh ck cm)),rfl,fun agd (xu:Kn 238 (KJ a f g l m p q s u ac ad ae af ag ax az a0 a3 a4 a5) ((tA 171 (Gz cj x171 cl gg gh ck cm))::(tI 19 x168.2)::(tI 16 x161.2)::(Bl x155 x143 a7 a8 x134 x128 x122)) agd)=>hK _ _ ?_⟩
           obtain⟨x172,ex172,H⟩:=H
           refine wl fun K hK=>?_
           refine wc [] xu sy (Bi n sy.has  ex172) fun amr ai9 an7 vj cu s0=>?_
           obtain⟨_,rfl,⟨_,_,rfl,⟨ca,b6,rfl,nw⟩,⟨_,_,rfl,⟨_,_,rfl,rfl,rfl⟩,⟨_,_,rfl,⟨cn,cq,rfl,f6⟩,⟨_,_,rfl,⟨co,cr,rfl,f7⟩,⟨_,_,rfl,rfl,⟨_,_,rfl,rfl,⟨_,_,rfl,rfl,rfl⟩⟩⟩⟩⟩⟩⟩⟩:=vj
           refine⟨.one (.agg (Hu ca x172 b6 cn cq co cr)),rfl,fun age (xv:Kn 238 (KJ a f g l m p q s u ac ad ae af ag ax az a0 a3 a4 a5) ((tA 172 (Hu ca x172 b6 cn cq co cr))::(tA 171 (Gz cj x171 cl gg gh ck cm))::(tI 19 x168.2)::(tI 16 x161.2)::(Bl x155 x143 a7 a8 x134 x128 x122)) age)=>hK _ _ ?_⟩
           obtain⟨x173,ex173,H⟩:=H
           refine wl fun K hK=>?_
           refine C4 [] _ xv s0 rfl rfl (by decide) (by rfl) rfl (fun _ _=>by kernel_rfl) (Me n s0.has  ex173) fun ams gi ah9 akf vk ci od=>?_
           replace ff:=ff.mono (QU (QU (QU (QU (QU (QU (QU (QU (QU (QU (QU (QU (QU (QU (QU (QU (QU fp fa) ej) d7) d3) dz) dv) ds) dl) d4) d5) dp) d1) dq) c6) c3) cu) ci)
           replace fg:=fg.mono (QU (QU (QU (QU (QU (QU (QU (QU (QU (QU (QU (QU (QU (QU (QU (QU (QU fp fa) ej) d7) d3) dz) dv) ds) dl) d4) d5) dp) d1) dq) c6) c3) cu) ci)
           replace gc:=gc.mono (QU (QU (QU (QU (QU (QU (QU (QU (QU (QU (QU (QU (QU (QU (QU (QU (QU fp fa) ej) d7) d3) dz) dv) ds) dl) d4) d5) dp) d1) dq) c6) c3) cu) ci)
           replace lg:=lg.mono (QU (QU (QU (QU (QU (QU (QU (QU (QU (QU (QU (QU (QU (QU (QU (QU fa ej) d7) d3) dz) dv) ds) dl) d4) d5) dp) d1) dq) c6) c3) cu) ci)
           replace fh:=fh.mono (QU (QU (QU (QU (QU (QU (QU (QU d4 d5) dp) d1) dq) c6) c3) cu) ci)
           replace fi:=fi.mono (QU (QU (QU (QU (QU (QU (QU (QU d4 d5) dp) d1) dq) c6) c3) cu) ci)
           replace fj:=fj.mono (QU (QU (QU (QU (QU (QU (QU (QU (QU dl d4) d5) dp) d1) dq) c6) c3) cu) ci)
           replace fk:=fk.mono (QU (QU (QU (QU (QU (QU (QU (QU (QU dl d4) d5) dp) d1) dq) c6) c3) cu) ci)
           replace gd:=gd.mono (QU (QU (QU (QU (QU (QU (QU (QU (QU dl d4) d5) dp) d1) dq) c6) c3) cu) ci)
           replace gf:=gf.mono (QU (QU (QU (QU (QU (QU (QU (QU d4 d5) dp) d1) dq) c6) c3) cu) ci)
           replace go:=go.mono (QU (QU (QU (QU dq c6) c3) cu) ci)
           replace gp:=gp.mono (QU (QU (QU (QU dq c6) c3) cu) ci)
           replace gq:=gq.mono (QU (QU (QU (QU dq c6) c3) cu) ci)
           replace f3:=f3.mono (QU (QU (QU c6 c3) cu) ci)
           replace f4:=f4.mono (QU (QU (QU c6 c3) cu) ci)
           replace f5:=f5.mono (QU (QU (QU c6 c3) cu) ci)
           replace gr:=gr.mono (QU (QU c3 cu) ci)
           replace gs:=gs.mono (QU (QU c3 cu) ci)
           replace gu:=gu.mono (QU (QU c3 cu) ci)
           replace fb:=fb.mono (QU cu ci)
           replace fc:=fc.mono (QU cu ci)
           replace nw:=nw.mono ci
           replace f6:=f6.mono ci
           replace f7:=f7.mono ci
           replace ez:=ez.mono (QU (QU (QU (QU (QU (QU (QU (QU (QU (QU (QU (QU (QU d3 dz) dv) ds) dl) d4) d5) dp) d1) dq) c6) c3) cu) ci)
           replace e0:=e0.mono (QU (QU (QU (QU (QU (QU (QU (QU (QU (QU (QU (QU dz dv) ds) dl) d4) d5) dp) d1) dq) c6) c3) cu) ci)
           replace e1:=e1.mono (QU (QU (QU (QU (QU (QU (QU (QU (QU (QU (QU dv ds) dl) d4) d5) dp) d1) dq) c6) c3) cu) ci)
           replace e2:=e2.mono (QU (QU (QU (QU (QU (QU (QU (QU (QU (QU ds dl) d4) d5) dp) d1) dq) c6) c3) cu) ci)
           replace e6:=e6.mono (QU (QU (QU (QU (QU (QU (QU (QU (QU dl d4) d5) dp) d1) dq) c6) c3) cu) ci)
           replace e7:=e7.mono (QU (QU (QU (QU (QU (QU (QU (QU d4 d5) dp) d1) dq) c6) c3) cu) ci)
           replace gj:=gj.mono (QU (QU (QU (QU (QU (QU (QU (QU (QU (QU (QU (QU (QU (QU (QU (QU (QU (QU (QU (QU (QU g1 fo) e9) ey) fp) fa) ej) d7) d3) dz) dv) ds) dl) d4) d5) dp) d1) dq) c6) c3) cu) ci)
           replace gk:=gk.mono (QU (QU (QU (QU (QU (QU (QU (QU (QU (QU (QU (QU (QU (QU (QU (QU (QU (QU (QU (QU (QU g1 fo) e9) ey) fp) fa) ej) d7) d3) dz) dv) ds) dl) d4) d5) dp) d1) dq) c6) c3) cu) ci)
           replace gl:=gl.mono (QU (QU (QU (QU (QU (QU (QU (QU (QU (QU (QU (QU (QU (QU (QU (QU (QU (QU (QU (QU (QU g1 fo) e9) ey) fp) fa) ej) d7) d3) dz) dv) ds) dl) d4) d5) dp) d1) dq) c6) c3) cu) ci)
           replace e3:=e3.mono (QU (QU (QU (QU (QU (QU (QU (QU (QU (QU (QU (QU (QU (QU (QU (QU (QU (QU (QU e9 ey) fp) fa) ej) d7) d3) dz) dv) ds) dl) d4) d5) dp) d1) dq) c6) c3) cu) ci)
           replace e5:=e5.mono (QU (QU (QU (QU (QU (QU (QU (QU (QU (QU (QU (QU (QU (QU (QU (QU (QU (QU ey fp) fa) ej) d7) d3) dz) dv) ds) dl) d4) d5) dp) d1) dq) c6) c3) cu) ci)
           replace e4:=e4.mono (QU (QU (QU (QU (QU (QU (QU (QU (QU (QU (QU (QU (QU (QU (QU (QU (QU fp fa) ej) d7) d3) dz) dv) ds) dl) d4) d5) dp) d1) dq) c6) c3) cu) ci)
           obtain⟨bl,bn,dm,bj,bk,ce,bm,bo,dt,rfl,rfl,fq,mj,fs⟩:=vk
           replace od:Ah ⟨w,h,Az⟩ gi (KJ a f g l m p q s u ac ad ae af ag ax az a0 a3 a4 a5) [⟨B8 z aa ab,some 76⟩,⟨[],none⟩,⟨[],none⟩,⟨[],none⟩,⟨[],none⟩,⟨FF ap ay aq ar x109 av au aw,some 34⟩,⟨GI al x110 an ah a2 ai am ao,some 34⟩,⟨F2 a9 x111 bb ba bc,some 34⟩,⟨[],none⟩,⟨[],none⟩,⟨[],none⟩,⟨[],none⟩,⟨[],none⟩,⟨Hs c7 x161 dd c8 de c9 df,some 76⟩,⟨J1 cv x164 cz cw c0 cx c1,some 43⟩,⟨Ht da x168 dg db dh dc di,some 34⟩] [⟨z,2,2,3,1,([.int .i64 0,.int .i64 15]:List Value),2⟩,⟨aa,2,2,3,1,([.int .i64 0,.int .i64 0]:List Value),2⟩,⟨aj,3,3,3,1,([.int .i64 10,.int .i64 10,.int .i64 10]:List Value),3⟩,⟨ak,3,3,3,1,([.int .i64 10,.int .i64 10,.int .i64 10]:List Value),3⟩,⟨y,3,3,3,1,([.int .i64 10,.int .i64 16,.int .i64 10]:List Value),3⟩,⟨ab,3,3,31,1,([.slice aj 3 3,.slice ak 3 3,.slice y 3 3]:List Value),3⟩,⟨ap,ay.length,aq,3,1,a1.take (0+(0:Int).toNat*1+0)++([.int .i64 3]:List Value)++a1.drop (0+(0:Int).toNat*1+0+1),0⟩,⟨ar,x109.turns.length,av,3,1,bu,0⟩,⟨au,x109.spares.length,aw,4,1,bw,0⟩,⟨al,x110.holds.length,an,3,1,a6,(a6:List Value).length⟩,⟨ah,a2.length,ai,3,1,(d.take (0+(0:Int).toNat*1+0)++([.int .i64 1]:List Value)++d.drop (0+(0:Int).toNat*1+0+1)).take (0+(0:Int).toNat*1+0)++([.int .i64 0]:List Value)++(d.take (0+(0:Int).toNat*1+0)++([.int .i64 1]:List Value)++d.drop (0+(0:Int).toNat*1+0+1)).drop (0+(0:Int).toNat*1+0+1),(((d.take (0+(0:Int).toNat*1+0)++([.int .i64 1]:List Value)++d.drop (0+(0:Int).toNat*1+0+1)).take (0+(0:Int).toNat*1+0)++([.int .i64 0]:List Value)++(d.take (0+(0:Int).toNat*1+0)++([.int .i64 1]:List Value)++d.drop (0+(0:Int).toNat*1+0+1)).drop (0+(0:Int).toNat*1+0+1)):List Value).length⟩,⟨am,x110.spares.length,ao,4,1,bd,(bd:List Value).length⟩,⟨bl,x173.legs.length,bn,39,2,dm,0⟩,⟨bj,x173.buses.length,bk,96,3,ce,0⟩,⟨bm,x173.spares.length,bo,110,2,dt,0⟩] ah9:=od
           refine⟨.one (.agg (Ii bl x173 bn bj bk bm bo)),rfl,fun agf (xw:Kn 238 (KJ a f g l m p q s u ac ad ae af ag ax az a0 a3 a4 a5) ((tA 173 (Ii bl x173 bn bj bk bm bo))::(tA 172 (Hu ca x172 b6 cn cq co cr))::(tA 171 (Gz cj x171 cl gg gh ck cm))::(tI 19 x168.2)::(tI 16 x161.2)::(Bl x155 x143 a7 a8 x134 x128 x122)) agf)=>hK _ _ ?_⟩
           refine wl fun K hK=>?_
           refine wa Ih xw od fun be agh an8 (xx:Kn 238 [(a,0),(f,g+(0:Int).toNat*1),(l,m+(1:Int).toNat*1),(p,q+(2:Int).toNat*1),(s,u+(3:Int).toNat*1),(ac,0),(ad,0),(ae,0),(af,0+(0:Int).toNat*1),(ag,0+(0:Int).toNat*1),(ax,0+(0:Int).toNat*1),(az,0+(2:Int).toNat*1),(a0,0+(1:Int).toNat*1),(a3,0),(a4,0),(a5,0),(be,0)] ((tP 20 16 0)::(tA 173 (Ii bl x173 bn bj bk bm bo))::(tA 172 (Hu ca x172 b6 cn cq co cr))::(tA 171 (Gz cj x171 cl gg gh ck cm))::(tI 19 x168.2)::(tI 16 x161.2)::(Bl x155 x143 a7 a8 x134 x128 x122)) agh) ac1=>hK _ _ ?_
           refine wl fun K hK=>?_
           refine wa Ih xx ac1 fun bf agi an9 (xy:Kn 238 [(a,0),(f,g+(0:Int).toNat*1),(l,m+(1:Int).toNat*1),(p,q+(2:Int).toNat*1),(s,u+(3:Int).toNat*1),(ac,0),(ad,0),(ae,0),(af,0+(0:Int).toNat*1),(ag,0+(0:Int).toNat*1),(ax,0+(0:Int).toNat*1),(az,0+(2:Int).toNat*1),(a0,0+(1:Int).toNat*1),(a3,0),(a4,0),(a5,0),(be,0),(bf,0)] ((tP 21 17 0)::(tP 20 16 0)::(tA 173 (Ii bl x173 bn bj bk bm bo))::(tA 172 (Hu ca x172 b6 cn cq co cr))::(tA 171 (Gz cj x171 cl gg gh ck cm))::(tI 19 x168.2)::(tI 16 x161.2)::(Bl x155 x143 a7 a8 x134 x128 x122)) agi) ac2=>hK _ _ ?_
           refine wl fun K hK=>?_
           refine wa Ih xy ac2 fun bg ug aob (xz:Kn 238 (KM a f g l m p q s u ac ad ae af ag ax az a0 a3 a4 a5 be bf bg) ((tP 22 18 0)::(tP 21 17 0)::(tP 20 16 0)::(tA 173 (Ii bl x173 bn bj bk bm bo))::(tA 172 (Hu ca x172 b6 cn cq co cr))::(tA 171 (Gz cj x171 cl gg gh ck cm))::(tI 19 x168.2)::(tI 16 x161.2)::(Bl x155 x143 a7 a8 x134 x128 x122)) ug) ac3=>hK _ _ ?_
           refine wl fun K hK=>?_
           refine Ea 16 0 (.agg (Gz cj x171 cl gg gh ck cm)) (Gz cj x171 cl gg gh ck cm) xz ac3 fun aoc x0 ac4=>hK _ _ ?_
           refine wl fun K hK=>?_
           refine Ea 17 0 (.agg (Hu ca x172 b6 cn cq co cr)) (Hu ca x172 b6 cn cq co cr) x0 ac4 fun aod x1 ac5=>hK _ _ ?_
           refine wl fun K hK=>?_
           refine Ea 18 0 (.agg (Ii bl x173 bn bj bk bm bo)) (Ii bl x173 bn bj bk bm bo) x1 ac5 fun aoe x2 ac6=>hK _ _ ?_
           have x3:Kn 238 (KM a f g l m p q s u ac ad ae af ag ax az a0 a3 a4 a5 be bf bg) ((tP 22 18 0)::(tP 21 17 0)::(tP 20 16 0)::(tI 19 x168.2)::(tI 16 x161.2)::(Bl x155 x143 a7 a8 x134 x128 x122)) ug:=x2.kp
           refine wf (QT (Ab ?_))
           obtain⟨x174,ex174,H⟩:=H
           obtain⟨ad1,ad7,t8⟩:=LO ex174
           refine wl fun K hK=>?_
           refine Gs 96 3 24 [.int .i64 0,.int .i64 0,.int .i64 0] (5) x3 ac6 rfl rfl (by decide) (by rfl) (by kernel_rfl) (by kernel_rfl) (by rfl) ad1 ad7 (by decide) fun bv agj aia (ra:Kn 238 [(a,0),(f,g+(0:Int).toNat*1),(l,m+(1:Int).toNat*1),(p,q+(2:Int).toNat*1),(s,u+(3:Int).toNat*1),(ac,0),(ad,0),(ae,0),(af,0+(0:Int).toNat*1),(ag,0+(0:Int).toNat*1),(ax,0+(0:Int).toNat*1),(az,0+(2:Int).toNat*1),(a0,0+(1:Int).toNat*1),(a3,0),(a4,0),(a5,0),(be,0),(bf,0),(bg,0)] [(174,.one (.c (.slice bv ((5:Int).toNat) ((5:Int).toNat)))),(22,.one (.c (.ptr 18 0))),(21,.one (.c (.ptr 17 0))),(20,.one (.c (.ptr 16 0))),(19,.one (.c (.int .i64 x168.2))),(16,.one (.c (.int .i64 x161.2))),(14,.one (.c (.int .i64 x155.2))),(12,.one (.c (.int .i64 x143.2))),(11,.one (.c (.slice a7 x143.1.length a8))),(7,.one (.c (.int .i64 x134.2))),(5,.one (.c (.int .i64 x128.2))),(3,.one (.c (.int .i64 x122.2)))] agj) (ms:Ah ⟨w,h,Az⟩ gi [(a,0),(f,g+(0:Int).toNat*1),(l,m+(1:Int).toNat*1),(p,q+(2:Int).toNat*1),(s,u+(3:Int).toNat*1),(ac,0),(ad,0),(ae,0),(af,0+(0:Int).toNat*1),(ag,0+(0:Int).toNat*1),(ax,0+(0:Int).toNat*1),(az,0+(2:Int).toNat*1),(a0,0+(1:Int).toNat*1),(a3,0),(a4,0),(a5,0),(be,0),(bf,0),(bg,0)] [⟨[.slice z 2 2,.slice aa 2 2,.slice ab 3 3],some 76⟩,⟨[],none⟩,⟨[],none⟩,⟨[],none⟩,⟨[],none⟩,⟨[.slice ap ay.length aq,.slice ar x109.turns.length av,.slice au x109.spares.length aw],some 34⟩,⟨[.slice al x110.holds.length an,.slice ah a2.length ai,.slice am x110.spares.length ao],some 34⟩,⟨[.slice a9 x111.holds.length bb,.slice ba x111.turns.length bc,.slice none 0 0],some 34⟩,⟨[],none⟩,⟨[],none⟩,⟨[],none⟩,⟨[],none⟩,⟨[],none⟩,⟨[.slice c7 x161.1.tm.length dd,.slice c8 x161.1.turns.length de,.slice c9 x161.1.legs.length df],some 76⟩,⟨[.slice cv x164.legs.length cz,.int .i64 x164.turn.lo,.int .i64 x164.turn.hi,.slice cw x164.buses.length c0,.slice cx x164.spares.length c1,.int .i64 x164.unit,.int .i64 34,.int .i64 x164.fr,.int .i64 x164.to_],some 43⟩,⟨[.slice da x168.1.holds.length dg,.slice db x168.1.turns.length dh,.slice dc x168.1.spares.length di],some 34⟩,⟨[.slice cj x171.legs.length cl,.int .i64 x171.turn.lo,.int .i64 x171.turn.hi,.slice gg x171.buses.length gh,.slice ck x171.spares.length cm,.int .i64 x171.unit,.int .i64 x171.gap,.int .i64 x171.fr,.int .i64 x171.to_],some 43⟩,⟨[.slice ca x172.legs.length b6,.int .i64 x172.turn.lo,.int .i64 x172.turn.hi,.slice cn x172.buses.length cq,.slice co x172.spares.length cr,.int .i64 x172.unit,.int .i64 x172.gap,.int .i64 x172.fr,.int .i64 x172.to_],some 43⟩,⟨[.slice bl x173.legs.length bn,.int .i64 x173.turn.lo,.int .i64 x173.turn.hi,.slice bj x173.buses.length bk,.slice bm x173.spares.length bo,.int .i64 x173.unit,.int .i64 x173.gap,.int .i64 x173.fr,.int .i64 x173.to_],some 43⟩] [⟨z,2,2,3,1,([.int .i64 0,.int .i64 15]:List Value),2⟩,⟨aa,2,2,3,1,([.int .i64 0,.int .i64 0]:List Value),2⟩,⟨aj,3,3,3,1,([.int .i64 10,.int .i64 10,.int .i64 10]:List Value),3⟩,⟨ak,3,3,3,1,([.int .i64 10,.int .i64 10,.int .i64 10]:List Value),3⟩,⟨y,3,3,3,1,([.int .i64 10,.int .i64 16,.int .i64 10]:List Value),3⟩,⟨ab,3,3,31,1,([.slice aj 3 3,.slice ak 3 3,.slice y 3 3]:List Value),3⟩,⟨ap,ay.length,aq,3,1,a1.take (0+(0:Int).toNat*1+0)++([.int .i64 3]:List Value)++a1.drop (0+(0:Int).toNat*1+0+1),0⟩,⟨ar,x109.turns.length,av,3,1,bu,0⟩,⟨au,x109.spares.length,aw,4,1,bw,0⟩,⟨al,x110.holds.length,an,3,1,a6,(a6:List Value).length⟩,⟨ah,a2.length,ai,3,1,(d.take (0+(0:Int).toNat*1+0)++([.int .i64 1]:List Value)++d.drop (0+(0:Int).toNat*1+0+1)).take (0+(0:Int).toNat*1+0)++([.int .i64 0]:List Value)++(d.take (0+(0:Int).toNat*1+0)++([.int .i64 1]:List Value)++d.drop (0+(0:Int).toNat*1+0+1)).drop (0+(0:Int).toNat*1+0+1),(((d.take (0+(0:Int).toNat*1+0)++([.int .i64 1]:List Value)++d.drop (0+(0:Int).toNat*1+0+1)).take (0+(0:Int).toNat*1+0)++([.int .i64 0]:List Value)++(d.take (0+(0:Int).toNat*1+0)++([.int .i64 1]:List Value)++d.drop (0+(0:Int).toNat*1+0+1)).drop (0+(0:Int).toNat*1+0+1)):List Value).length⟩,⟨am,x110.spares.length,ao,4,1,bd,(bd:List Value).length⟩,⟨bl,x173.legs.length,bn,39,2,dm,0⟩,⟨bj,x173.buses.length,bk,96,3,ce,0⟩,⟨bm,x173.spares.length,bo,110,2,dt,0⟩,⟨bv,(5:Int).toNat,(5:Int).toNat,96,3,List.flatten (List.replicate (5:Int).toNat ([.int .i64 0,.int .i64 0,.int .i64 0]:List Value)),0⟩] aia)=>?_
           have fl:Af gi x174 (List.flatten (List.replicate (5:Int).toNat ([.int .i64 0,.int .i64 0,.int .i64 0]:List Value))):=by rw [t8]; exact Af.replicate (α:=Ct) (x:=(Ct.mk 0 (Rg.mk 0 0))) (Aa Ac (Aa Ac Ac)) _
           have sw:(5:Int).toNat=x174.length:=by rw [t8]; simp
           rw [sw] at ra ms
           skip
           rw [sw] at fl
           refine hK _ _ ?_
           refine AA 1 1 [175,174,22,21,20,19,16,14,12,11,7,5,3] ((tP 175 16 3)::(tS 174 bv x174.length x174.length)::(tP 22 18 0)::(tP 21 17 0)::(tP 20 16 0)::(tI 19 x168.2)::(tI 16 x161.2)::(Bl x155 x143 a7 a8 x134 x128 x122)) ra (Am.peek ms.plOk ms 5 11 rfl rfl bx [.slice y 3 3] (b1 _)) (by kernel_rfl) fun agk x5=>?_
           refine wl fun K hK=>?_
           refine Ea 16 3 (.c (.slice bv x174.length x174.length)) (KH cj x171 cl bv x174 ck cm) x5 ms fun aof x6 k5=>hK _ _ ?_
           have x7:Kn 238 (KM a f g l m p q s u ac ad ae af ag ax az a0 a3 a4 a5 be bf bg) ((tP 22 18 0)::(tP 21 17 0)::(tP 20 16 0)::(tI 19 x168.2)::(tI 16 x161.2)::(Bl x155 x143 a7 a8 x134 x128 x122)) agk:=x6.kp
           refine wf (QT (Ab (AA 0 2 [177,22,21,20,19,16,14,12,11,7,5,3] ((tS 177 ca x172.legs.length b6)::(tP 22 18 0)::(tP 21 17 0)::(tP 20 16 0)::(tI 19 x168.2)::(tI 16 x161.2)::(Bl x155 x143 a7 a8 x134 x128 x122)) x7 (Am.peek k5.plOk k5 5 11 rfl rfl bx [.slice y 3 3] (b1 _)) (by kernel_rfl) fun ako rb=>?_)))
           obtain⟨x178,ex178,H⟩:=H
           obtain⟨ad2,aj2,t9⟩:=N4 ex178
           have ajq:x172.legs.length≤b6:=nw.cap
           have g3:Ar gi ca b6 x178:=by rw [t9]; exact nw.take _
           have adz:(2:Int).toNat=x178.length:=by rw [t9,List.length_take]; omega
           refine Ln 2 (.one (.c (.slice ca x178.length b6))) rfl (rfl) rfl (N5 (T:=38) (E:=39) (sz:=2) rb rfl rfl rfl (by kernel_rfl) (by kernel_rfl) ad2 (by omega) adz) (rb.put (by decide) _) fun agl (x8:Kn 238 (KM a f g l m p q s u ac ad ae af ag ax az a0 a3 a4 a5 be bf bg) ((tS 178 ca x178.length b6)::(tS 177 ca x172.legs.length b6)::(tP 22 18 0)::(tP 21 17 0)::(tP 20 16 0)::(tI 19 x168.2)::(tI 16 x161.2)::(Bl x155 x143 a7 a8 x134 x128 x122)) agl)=>?_
           refine AA 3 1 [179,178,22,21,20,19,16,14,12,11,7,5,3] ((tP 179 17 0)::(tS 178 ca x178.length b6)::(tP 22 18 0)::(tP 21 17 0)::(tP 20 16 0)::(tI 19 x168.2)::(tI 16 x161.2)::(Bl x155 x143 a7 a8 x134 x128 x122)) x8 (Am.peek k5.plOk k5 5 11 rfl rfl bx [.slice y 3 3] (b1 _)) (by kernel_rfl) fun agm x9=>?_
           refine wl fun K hK=>?_
           refine Ea 17 0 (.c (.slice ca x178.length b6)) (KG ca x178 b6 x172 cn cq co cr) x9 k5 fun aog ya mt=>hK _ _ ?_
           have yb:Kn 238 (KM a f g l m p q s u ac ad ae af ag ax az a0 a3 a4 a5 be bf bg) ((tP 22 18 0)::(tP 21 17 0)::(tP 20 16 0)::(tI 19 x168.2)::(tI 16 x161.2)::(Bl x155 x143 a7 a8 x134 x128 x122)) agm:=ya.kp
           refine wf (QT (Ab (AA 0 2 [181,22,21,20,19,16,14,12,11,7,5,3] ((tS 181 bj x173.buses.length bk)::(tP 22 18 0)::(tP 21 17 0)::(tP 20 16 0)::(tI 19 x168.2)::(tI 16 x161.2)::(Bl x155 x143 a7 a8 x134 x128 x122)) yb (Am.peek mt.plOk mt 5 11 rfl rfl bx [.slice y 3 3] (b1 _)) (by kernel_rfl) fun akp yc=>?_)))
           obtain⟨x182,ex182,H⟩:=H
           obtain⟨tw,t2,afv⟩:=Ak ex182
           have n5:=AX tw t2
           obtain⟨aix,afm,w0⟩:=Dc (sz:=3) rfl mj afv
           obtain⟨_,_,rfl,rfl,⟨_,_,rfl,rfl,rfl⟩⟩:=afm
           obtain⟨bs,n1⟩:=Bo mt (i:=13) rfl (b0:=0+(0:Int).toNat*3) (Nat.lt_of_lt_of_le (Nat.lt_add_of_pos_right (by decide)) (Bk (sz:=3) rfl mj n5))
           have mu:=mt.addPlc (b:=bs) (o:=0+(0:Int).toNat*3) (cs:=[]) (fun j c hj=>by simp at hj) rfl (by kernel_rfl) (by kernel_rfl)
           have q9:∀ (e:AG) k c,([.int .i64 x182.stop,.int .i64 x182.tm.lo,.int .i64 x182.tm.hi]:List SC)[k]? = some c→(ce)[0+(0:Int).toNat*3+k]? = some (c.den e):=fun e k c hk=>w0 k _ (Al hk)
           refine A6 2 (0) rfl rfl (rfl) rfl (by decide) yc (by rfl) (by rfl) (by rfl) n1 (by rfl) tw t2 (by kernel_rfl) fun agn (yd:Kn 238 (AJ a f g l m p q s u ac ad ae af ag ax az a0 a3 a4 a5 be bf bg bs) ((tP 182 19 0)::(tS 181 bj x173.buses.length bk)::(tP 22 18 0)::(tP 21 17 0)::(tP 20 16 0)::(tI 19 x168.2)::(tI 16 x161.2)::(Bl x155 x143 a7 a8 x134 x128 x122)) agn)=>?_
           refine AA 3 1 [183,22,21,20,19,16,14,12,11,7,5,3] ((tP 183 19 0)::(tP 22 18 0)::(tP 21 17 0)::(tP 20 16 0)::(tI 19 x168.2)::(tI 16 x161.2)::(Bl x155 x143 a7 a8 x134 x128 x122)) yd (Am.peek (Am.peek mu.plOk mu 5 11 rfl rfl bx [.slice y 3 3] (b1 _)) mu 13 19 rfl rfl n1 [.int .i64 x182.stop,.int .i64 x182.tm.lo,.int .i64 x182.tm.hi] (q9 _)) (by kernel_rfl) fun ago ye=>?_
           obtain⟨bz,u9,H⟩:=H
           obtain⟨ajx,aj3,ua⟩:=Cm u9
           refine wl fun K hK=>?_
           refine BO 13 19 0 (0+(0:Int).toNat*3) (.c (.int .i64 4)) ye mu rfl rfl (by rfl) (by rfl) rfl rfl n1 rfl (by kernel_rfl) (Nq (sz:=3) 0 1 rfl mj n5 (Nat.le_of_ble_eq_true rfl)) fun aib yf ac7=>?_
           have ft:Af gi bz (ce.take (0+(0:Int).toNat*3+0)++([.int .i64 4]:List Value)++ce.drop (0+(0:Int).toNat*3+0+1)):=by rw [ua]; exact KZ (sz:=3) (cs:=[.int .i64 x182.stop,.int .i64 x182.tm.lo,.int .i64 x182.tm.hi]) [(a,0),(f,g+(0:Int).toNat*1),(l,m+(1:Int).toNat*1),(p,q+(2:Int).toNat*1),(s,u+(3:Int).toNat*1),(ac,0),(ad,0),(ae,0),(af,0+(0:Int).toNat*1),(ag,0+(0:Int).toNat*1),(ax,0+(0:Int).toNat*1),(az,0+(2:Int).toNat*1),(a0,0+(1:Int).toNat*1),(a3,0),(a4,0),(a5,0),(be,0),(bf,0),(bg,0),(bs,0+(0:Int).toNat*3)] 0 rfl mj n5 (q9 _) rfl (Nat.le_of_ble_eq_true rfl) ((Aa Ac (Aa Ac Ac)):rep gi ((Ct.mk 4 x182.tm):Ct) _)
           have ad0:x173.buses.length=bz.length:=by rw [ua]; simp
           have yg:=yf
           have d0:Ah ⟨w,h,Az⟩ gi [(a,0),(f,g+(0:Int).toNat*1),(l,m+(1:Int).toNat*1),(p,q+(2:Int).toNat*1),(s,u+(3:Int).toNat*1),(ac,0),(ad,0),(ae,0),(af,0+(0:Int).toNat*1),(ag,0+(0:Int).toNat*1),(ax,0+(0:Int).toNat*1),(az,0+(2:Int).toNat*1),(a0,0+(1:Int).toNat*1),(a3,0),(a4,0),(a5,0),(be,0),(bf,0),(bg,0),(bs,0+(0:Int).toNat*3)] [⟨[.slice z 2 2,.slice aa 2 2,.slice ab 3 3],some 76⟩,⟨[],none⟩,⟨[],none⟩,⟨[],none⟩,⟨[],none⟩,⟨[.slice ap ay.length aq,.slice ar x109.turns.length av,.slice au x109.spares.length aw],some 34⟩,⟨[.slice al x110.holds.length an,.slice ah a2.length ai,.slice am x110.spares.length ao],some 34⟩,⟨[.slice a9 x111.holds.length bb,.slice ba x111.turns.length bc,.slice none 0 0],some 34⟩,⟨[],none⟩,⟨[],none⟩,⟨[],none⟩,⟨[],none⟩,⟨[],none⟩,⟨[.slice c7 x161.1.tm.length dd,.slice c8 x161.1.turns.length de,.slice c9 x161.1.legs.length df],some 76⟩,⟨[.slice cv x164.legs.length cz,.int .i64 x164.turn.lo,.int .i64 x164.turn.hi,.slice cw x164.buses.length c0,.slice cx x164.spares.length c1,.int .i64 x164.unit,.int .i64 34,.int .i64 x164.fr,.int .i64 x164.to_],some 43⟩,⟨[.slice da x168.1.holds.length dg,.slice db x168.1.turns.length dh,.slice dc x168.1.spares.length di],some 34⟩,⟨[.slice cj x171.legs.length cl,.int .i64 x171.turn.lo,.int .i64 x171.turn.hi,.slice bv x174.length x174.length,.slice ck x171.spares.length cm,.int .i64 x171.unit,.int .i64 x171.gap,.int .i64 x171.fr,.int .i64 x171.to_],some 43⟩,⟨[.slice ca x178.length b6,.int .i64 x172.turn.lo,.int .i64 x172.turn.hi,.slice cn x172.buses.length cq,.slice co x172.spares.length cr,.int .i64 x172.unit,.int .i64 x172.gap,.int .i64 x172.fr,.int .i64 x172.to_],some 43⟩,⟨[.slice bl x173.legs.length bn,.int .i64 x173.turn.lo,.int .i64 x173.turn.hi,.slice bj bz.length bk,.slice bm x173.spares.length bo,.int .i64 x173.unit,.int .i64 x173.gap,.int .i64 x173.fr,.int .i64 x173.to_],some 43⟩,⟨[],none⟩] [⟨z,2,2,3,1,([.int .i64 0,.int .i64 15]:List Value),2⟩,⟨aa,2,2,3,1,([.int .i64 0,.int .i64 0]:List Value),2⟩,⟨aj,3,3,3,1,([.int .i64 10,.int .i64 10,.int .i64 10]:List Value),3⟩,⟨ak,3,3,3,1,([.int .i64 10,.int .i64 10,.int .i64 10]:List Value),3⟩,⟨y,3,3,3,1,([.int .i64 10,.int .i64 16,.int .i64 10]:List Value),3⟩,⟨ab,3,3,31,1,([.slice aj 3 3,.slice ak 3 3,.slice y 3 3]:List Value),3⟩,⟨ap,ay.length,aq,3,1,a1.take (0+(0:Int).toNat*1+0)++([.int .i64 3]:List Value)++a1.drop (0+(0:Int).toNat*1+0+1),0⟩,⟨ar,x109.turns.length,av,3,1,bu,0⟩,⟨au,x109.spares.length,aw,4,1,bw,0⟩,⟨al,x110.holds.length,an,3,1,a6,(a6:List Value).length⟩,⟨ah,a2.length,ai,3,1,(d.take (0+(0:Int).toNat*1+0)++([.int .i64 1]:List Value)++d.drop (0+(0:Int).toNat*1+0+1)).take (0+(0:Int).toNat*1+0)++([.int .i64 0]:List Value)++(d.take (0+(0:Int).toNat*1+0)++([.int .i64 1]:List Value)++d.drop (0+(0:Int).toNat*1+0+1)).drop (0+(0:Int).toNat*1+0+1),(((d.take (0+(0:Int).toNat*1+0)++([.int .i64 1]:List Value)++d.drop (0+(0:Int).toNat*1+0+1)).take (0+(0:Int).toNat*1+0)++([.int .i64 0]:List Value)++(d.take (0+(0:Int).toNat*1+0)++([.int .i64 1]:List Value)++d.drop (0+(0:Int).toNat*1+0+1)).drop (0+(0:Int).toNat*1+0+1)):List Value).length⟩,⟨am,x110.spares.length,ao,4,1,bd,(bd:List Value).length⟩,⟨bl,x173.legs.length,bn,39,2,dm,0⟩,⟨bj,bz.length,bk,96,3,ce.take (0+(0:Int).toNat*3+0)++([.int .i64 4]:List Value)++ce.drop (0+(0:Int).toNat*3+0+1),0⟩,⟨bm,x173.spares.length,bo,110,2,dt,0⟩,⟨bv,x174.length,x174.length,96,3,List.flatten (List.replicate x174.length ([.int .i64 0,.int .i64 0,.int .i64 0]:List Value)),0⟩] aib:=by rw [← ad0]; exact ac7
           refine hK _ _ ?_
           have yh:Kn 238 (AJ a f g l m p q s u ac ad ae af ag ax az a0 a3 a4 a5 be bf bg bs) ((tP 22 18 0)::(tP 21 17 0)::(tP 20 16 0)::(tI 19 x168.2)::(tI 16 x161.2)::(Bl x155 x143 a7 a8 x134 x128 x122)) ago:=yg.kp
           refine wf (QT (Ab (AA 0 3 [186,22,21,20,19,16,14,12,11,7,5] [tB 186 (x122.2 == 2),tP 22 18 0,tP 21 17 0,tP 20 16 0,tI 19 x168.2,tI 16 x161.2,tI 14 x155.2,tI 12 x143.2,tS 11 a7 x143.1.length a8,tI 7 x134.2,tI 5 x128.2] yh (Am.peek d0.plOk d0 5 11 rfl rfl bx [.slice y 3 3] (b1 _)) (by kernel_rfl) fun uh rc=>?_)))
           rcases Bool.eq_false_or_eq_true ((x122.2 == 2)) with kg | kg
           ·
            rw [kg,QW] at H
            have yi:Kn 238 (AJ a f g l m p q s u ac ad ae af ag ax az a0 a3 a4 a5 be bf bg bs) [tB 186 true,tP 22 18 0,tP 21 17 0,tP 20 16 0,tI 19 x168.2,tI 16 x161.2,tI 14 x155.2,tI 12 x143.2,tS 11 a7 x143.1.length a8,tI 7 x134.2,tI 5 x128.2] uh:=(rc.setB 186 true (by rfl) kg).kp
            refine AA 3 4 [190,22,21,20,19,16,14,12,11,7] [tB 190 (x128.2 == 2),tP 22 18 0,tP 21 17 0,tP 20 16 0,tI 19 x168.2,tI 16 x161.2,tI 14 x155.2,tI 12 x143.2,tS 11 a7 x143.1.length a8,tI 7 x134.2] yi (Am.peek d0.plOk d0 5 11 rfl rfl bx [.slice y 3 3] (b1 _)) (by kernel_rfl) fun ui rd=>?_
            rcases Bool.eq_false_or_eq_true ((x128.2 == 2)) with kh | kh
            ·
             rw [kh,QW] at H
             have yk:Kn 238 (AJ a f g l m p q s u ac ad ae af ag ax az a0 a3 a4 a5 be bf bg bs) [tB 190 true,tP 22 18 0,tP 21 17 0,tP 20 16 0,tI 19 x168.2,tI 16 x161.2,tI 14 x155.2,tI 12 x143.2,tS 11 a7 x143.1.length a8,tI 7 x134.2] ui:=(rd.setB 190 true (by rfl) kh).kp
             refine AA 7 4 [194,22,21,20,19,16,14,12,11] [tB 194 (x134.2 == 2),tP 22 18 0,tP 21 17 0,tP 20 16 0,tI 19 x168.2,tI 16 x161.2,tI 14 x155.2,tI 12 x143.2,tS 11 a7 x143.1.length a8] yk (Am.peek d0.plOk d0 5 11 rfl rfl bx [.slice y 3 3] (b1 _)) (by kernel_rfl) fun uj re=>?_
             rcases Bool.eq_false_or_eq_true ((x134.2 == 2)) with ki | ki
             ·
              rw [ki,QW] at H
              have yl:Kn 238 (AJ a f g l m p q s u ac ad ae af ag ax az a0 a3 a4 a5 be bf bg bs) [tB 194 true,tP 22 18 0,tP 21 17 0,tP 20 16 0,tI 19 x168.2,tI 16 x161.2,tI 14 x155.2,tI 12 x143.2,tS 11 a7 x143.1.length a8] uj:=(re.setB 194 true (by rfl) ki).kp
              refine AA 11 4 [198,22,21,20,19,16,14,11] [tB 198 (x143.2 == 0),tP 22 18 0,tP 21 17 0,tP 20 16 0,tI 19 x168.2,tI 16 x161.2,tI 14 x155.2,tS 11 a7 x143.1.length a8] yl (Am.peek d0.plOk d0 5 11 rfl rfl bx [.slice y 3 3] (b1 _)) (by kernel_rfl) fun uk rf=>?_
              rcases Bool.eq_false_or_eq_true ((x143.2 == 0)) with kj | kj
              ·
               rw [kj,QW] at H
               have ym:Kn 238 (AJ a f g l m p q s u ac ad ae af ag ax az a0 a3 a4 a5 be bf bg bs) [tB 198 true,tP 22 18 0,tP 21 17 0,tP 20 16 0,tI 19 x168.2,tI 16 x161.2,tI 14 x155.2,tS 11 a7 x143.1.length a8] uk:=(rf.setB 198 true (by rfl) kj).kp
               refine AA 15 1 [199,198,22,21,20,19,16,14] [tS 199 a7 x143.1.length a8,tB 198 true,tP 22 18 0,tP 21 17 0,tP 20 16 0,tI 19 x168.2,tI 16 x161.2,tI 14 x155.2] ym (Am.peek d0.plOk d0 5 11 rfl rfl bx [.slice y 3 3] (b1 _)) (by kernel_rfl) fun akr rg=>?_
               refine Aq _ rfl (Ai rg (by kernel_rfl)) fun K hK=>?_
               refine wS 3 1 [.int .i64 40,.int .i64 30,.int .i64 45,.int .i64 50] rg d0 fun g8 agq aic (rh:Kn 238 (AJ a f g l m p q s u ac ad ae af ag ax az a0 a3 a4 a5 be bf bg bs) [tS 200 g8 4 4,tS 199 a7 x143.1.length a8,tB 198 true,tP 22 18 0,tP 21 17 0,tP 20 16 0,tI 19 x168.2,tI 16 x161.2,tI 14 x155.2] agq) s1=>?_
               have fu:Af gi ([40,30,45,50]:List Int) ([.int .i64 40,.int .i64 30,.int .i64 45,.int .i64 50]:List Value):=⟨_,_,rfl,(Ac:rep gi (40:Int) _),⟨_,_,rfl,(Ac:rep gi (30:Int) _),⟨_,_,rfl,(Ac:rep gi (45:Int) _),⟨_,_,rfl,(Ac:rep gi (50:Int) _),rfl⟩⟩⟩⟩
               refine hK _ _ ?_
               obtain⟨qf,cb,aet,mv⟩:=s1.settle (i:=16) rfl
               replace lg:=lg.mono cb
               replace fu:=fu.mono cb
               replace mv:Ah ⟨w,h,Az⟩ qf (AJ a f g l m p q s u ac ad ae af ag ax az a0 a3 a4 a5 be bf bg bs) (E5 z aa ab ap ay aq ar x109 av au aw al x110 an ah a2 ai am ao a9 x111 bb ba bc c7 x161 dd c8 de c9 df cv x164 cz cw c0 cx c1 da x168 dg db dh dc di cj x171 cl bv x174 ck cm ca x178 b6 x172 cn cq co cr bl x173 bn bj bz bk bm bo) [⟨z,2,2,3,1,([.int .i64 0,.int .i64 15]:List Value),2⟩,⟨aa,2,2,3,1,([.int .i64 0,.int .i64 0]:List Value),2⟩,⟨aj,3,3,3,1,([.int .i64 10,.int .i64 10,.int .i64 10]:List Value),3⟩,⟨ak,3,3,3,1,([.int .i64 10,.int .i64 10,.int .i64 10]:List Value),3⟩,⟨y,3,3,3,1,([.int .i64 10,.int .i64 16,.int .i64 10]:List Value),3⟩,⟨ab,3,3,31,1,([.slice aj 3 3,.slice ak 3 3,.slice y 3 3]:List Value),3⟩,⟨ap,ay.length,aq,3,1,a1.take (0+(0:Int).toNat*1+0)++([.int .i64 3]:List Value)++a1.drop (0+(0:Int).toNat*1+0+1),0⟩,⟨ar,x109.turns.length,av,3,1,bu,0⟩,⟨au,x109.spares.length,aw,4,1,bw,0⟩,⟨al,x110.holds.length,an,3,1,a6,(a6:List Value).length⟩,⟨ah,a2.length,ai,3,1,(d.take (0+(0:Int).toNat*1+0)++([.int .i64 1]:List Value)++d.drop (0+(0:Int).toNat*1+0+1)).take (0+(0:Int).toNat*1+0)++([.int .i64 0]:List Value)++(d.take (0+(0:Int).toNat*1+0)++([.int .i64 1]:List Value)++d.drop (0+(0:Int).toNat*1+0+1)).drop (0+(0:Int).toNat*1+0+1),(((d.take (0+(0:Int).toNat*1+0)++([.int .i64 1]:List Value)++d.drop (0+(0:Int).toNat*1+0+1)).take (0+(0:Int).toNat*1+0)++([.int .i64 0]:List Value)++(d.take (0+(0:Int).toNat*1+0)++([.int .i64 1]:List Value)++d.drop (0+(0:Int).toNat*1+0+1)).drop (0+(0:Int).toNat*1+0+1)):List Value).length⟩,⟨am,x110.spares.length,ao,4,1,bd,(bd:List Value).length⟩,⟨bl,x173.legs.length,bn,39,2,dm,0⟩,⟨bj,bz.length,bk,96,3,ce.take (0+(0:Int).toNat*3+0)++([.int .i64 4]:List Value)++ce.drop (0+(0:Int).toNat*3+0+1),0⟩,⟨bm,x173.spares.length,bo,110,2,dt,0⟩,⟨bv,x174.length,x174.length,96,3,List.flatten (List.replicate x174.length ([.int .i64 0,.int .i64 0,.int .i64 0]:List Value)),0⟩,⟨g8,4,4,3,1,([.int .i64 40,.int .i64 30,.int .i64 45,.int .i64 50]:List Value),4⟩] aic:=mv
               have g4:Ar qf g8 4 ([40,30,45,50]:List Int):=⟨_,fu,aet,s1.rowCap (i:=16) rfl⟩
               obtain⟨x201,ex201,H⟩:=H
               refine Aq _ rfl (Ai rh (by kernel_rfl)) fun K hK=>?_
               refine wc [.c (.slice a7 x143.1.length a8),.c (.slice g8 4 4)] rh mv (Cy n mv.has x143.1 lg ([40,30,45,50]:List Int) g4 ex201) fun amu me lh vm cc dw=>?_
               replace ff:=ff.mono (QU cb cc)
               replace fg:=fg.mono (QU cb cc)
               replace gc:=gc.mono (QU cb cc)
               replace fh:=fh.mono (QU cb cc)
               replace fi:=fi.mono (QU cb cc)
               replace fj:=fj.mono (QU cb cc)
               replace fk:=fk.mono (QU cb cc)
               replace gd:=gd.mono (QU cb cc)
               replace gf:=gf.mono (QU cb cc)
               replace go:=go.mono (QU cb cc)
               replace gp:=gp.mono (QU cb cc)
               replace gq:=gq.mono (QU cb cc)
               replace f3:=f3.mono (QU cb cc)
               replace f4:=f4.mono (QU cb cc)
               replace f5:=f5.mono (QU cb cc)
               replace gr:=gr.mono (QU cb cc)
               replace gs:=gs.mono (QU cb cc)
               replace gu:=gu.mono (QU cb cc)
               replace fb:=fb.mono (QU cb cc)
               replace fc:=fc.mono (QU cb cc)
               replace f6:=f6.mono (QU cb cc)
               replace f7:=f7.mono (QU cb cc)
               replace g3:=g3.mono (QU cb cc)
               replace g4:=g4.mono cc
               replace ez:=ez.mono (QU cb cc)
               replace e0:=e0.mono (QU cb cc)
               replace e1:=e1.mono (QU cb cc)
               replace e2:=e2.mono (QU cb cc)
               replace e6:=e6.mono (QU cb cc)
               replace e7:=e7.mono (QU cb cc)
               replace gj:=gj.mono (QU cb cc)
               replace gk:=gk.mono (QU cb cc)
               replace gl:=gl.mono (QU cb cc)
               replace e3:=e3.mono (QU cb cc)
               replace e5:=e5.mono (QU cb cc)
               replace e4:=e4.mono (QU cb cc)
               replace fq:=fq.mono (QU cb cc)
               replace ft:=ft.mono (QU cb cc)
               replace fs:=fs.mono (QU cb cc)
               replace fl:=fl.mono (QU cb cc)
               replace fu:=fu.mono cc
               obtain rfl:=vm
               refine⟨.one (.c (.bool x201)),rfl,fun agr (yo:Kn 238 (AJ a f g l m p q s u ac ad ae af ag ax az a0 a3 a4 a5 be bf bg bs) [tB 201 x201,tS 200 g8 4 4,tS 199 a7 x143.1.length a8,tB 198 true,tP 22 18 0,tP 21 17 0,tP 20 16 0,tI 19 x168.2,tI 16 x161.2,tI 14 x155.2] agr)=>hK _ _ ?_⟩
               refine AA 18 2 [203,22,21,20,19,16,14] [tB 203 x201,tP 22 18 0,tP 21 17 0,tP 20 16 0,tI 19 x168.2,tI 16 x161.2,tI 14 x155.2] yo (Am.peek dw.plOk dw 5 11 rfl rfl bx [.slice y 3 3] (b1 _)) (by kernel_rfl) fun ul ri=>?_
               rcases Bool.eq_false_or_eq_true (x201) with kk | kk
               ·
                rw [kk,QW] at H
                have yp:Kn 238 (AJ a f g l m p q s u ac ad ae af ag ax az a0 a3 a4 a5 be bf bg bs) [tB 203 true,tP 22 18 0,tP 21 17 0,tP 20 16 0,tI 19 x168.2,tI 16 x161.2,tI 14 x155.2] ul:=(ri.setB 203 true (by rfl) kk).kp
                refine AA 20 4 [207,22,21,20,19,16] [tB 207 (x155.2 == 2),tP 22 18 0,tP 21 17 0,tP 20 16 0,tI 19 x168.2,tI 16 x161.2] yp (Am.peek dw.plOk dw 5 11 rfl rfl bx [.slice y 3 3] (b1 _)) (by kernel_rfl) fun um rj=>?_
                rcases Bool.eq_false_or_eq_true ((x155.2 == 2)) with kl | kl
                ·
                 rw [kl,QW] at H
                 have yq:Kn 238 (AJ a f g l m p q s u ac ad ae af ag ax az a0 a3 a4 a5 be bf bg bs) [tB 207 true,tP 22 18 0,tP 21 17 0,tP 20 16 0,tI 19 x168.2,tI 16 x161.2] um:=(rj.setB 207 true (by rfl) kl).kp
                 refine AA 24 4 [211,22,21,20,19] [tB 211 (x161.2 == 2),tP 22 18 0,tP 21 17 0,tP 20 16 0,tI 19 x168.2] yq (Am.peek dw.plOk dw 5 11 rfl rfl bx [.slice y 3 3] (b1 _)) (by kernel_rfl) fun un rk=>?_
                 rcases Bool.eq_false_or_eq_true ((x161.2 == 2)) with km | km
                 ·
                  rw [km,QW] at H
                  have ys:Kn 238 (AJ a f g l m p q s u ac ad ae af ag ax az a0 a3 a4 a5 be bf bg bs) [tB 211 true,tP 22 18 0,tP 21 17 0,tP 20 16 0,tI 19 x168.2] un:=(rk.setB 211 true (by rfl) km).kp
                  refine AA 28 4 [215,22,21,20] [tB 215 (x168.2 == 9),tP 22 18 0,tP 21 17 0,tP 20 16 0] ys (Am.peek dw.plOk dw 5 11 rfl rfl bx [.slice y 3 3] (b1 _)) (by kernel_rfl) fun uo rl=>?_
                  rcases Bool.eq_false_or_eq_true ((x168.2 == 9)) with kn | kn
                  ·
                   rw [kn,QW] at H
                   have yt:Kn 238 (AJ a f g l m p q s u ac ad ae af ag ax az a0 a3 a4 a5 be bf bg bs) [tB 215 true,tP 22 18 0,tP 21 17 0,tP 20 16 0] uo:=(rl.setB 215 true (by rfl) kn).kp
                   refine AA 32 1 [216,215,22,21] [tA 216 (KH cj x171 cl bv x174 ck cm),tB 215 true,tP 22 18 0,tP 21 17 0] yt (Am.peek dw.plOk dw 5 11 rfl rfl bx [.slice y 3 3] (b1 _)) (by kernel_rfl) fun akt rm=>?_
                   obtain⟨ny,cd,aeu,mw⟩:=dw.settle (i:=15) rfl
                   replace fb:=fb.mono cd
                   replace fc:=fc.mono cd
                   replace fl:=fl.mono cd
                   replace mw:Ah ⟨w,h,Az⟩ ny (AJ a f g l m p q s u ac ad ae af ag ax az a0 a3 a4 a5 be bf bg bs) (E5 z aa ab ap ay aq ar x109 av au aw al x110 an ah a2 ai am ao a9 x111 bb ba bc c7 x161 dd c8 de c9 df cv x164 cz cw c0 cx c1 da x168 dg db dh dc di cj x171 cl bv x174 ck cm ca x178 b6 x172 cn cq co cr bl x173 bn bj bz bk bm bo) [⟨z,2,2,3,1,([.int .i64 0,.int .i64 15]:List Value),2⟩,⟨aa,2,2,3,1,([.int .i64 0,.int .i64 0]:List Value),2⟩,⟨aj,3,3,3,1,([.int .i64 10,.int .i64 10,.int .i64 10]:List Value),3⟩,⟨ak,3,3,3,1,([.int .i64 10,.int .i64 10,.int .i64 10]:List Value),3⟩,⟨y,3,3,3,1,([.int .i64 10,.int .i64 16,.int .i64 10]:List Value),3⟩,⟨ab,3,3,31,1,([.slice aj 3 3,.slice ak 3 3,.slice y 3 3]:List Value),3⟩,⟨ap,ay.length,aq,3,1,a1.take (0+(0:Int).toNat*1+0)++([.int .i64 3]:List Value)++a1.drop (0+(0:Int).toNat*1+0+1),0⟩,⟨ar,x109.turns.length,av,3,1,bu,0⟩,⟨au,x109.spares.length,aw,4,1,bw,0⟩,⟨al,x110.holds.length,an,3,1,a6,(a6:List Value).length⟩,⟨ah,a2.length,ai,3,1,(d.take (0+(0:Int).toNat*1+0)++([.int .i64 1]:List Value)++d.drop (0+(0:Int).toNat*1+0+1)).take (0+(0:Int).toNat*1+0)++([.int .i64 0]:List Value)++(d.take (0+(0:Int).toNat*1+0)++([.int .i64 1]:List Value)++d.drop (0+(0:Int).toNat*1+0+1)).drop (0+(0:Int).toNat*1+0+1),(((d.take (0+(0:Int).toNat*1+0)++([.int .i64 1]:List Value)++d.drop (0+(0:Int).toNat*1+0+1)).take (0+(0:Int).toNat*1+0)++([.int .i64 0]:List Value)++(d.take (0+(0:Int).toNat*1+0)++([.int .i64 1]:List Value)++d.drop (0+(0:Int).toNat*1+0+1)).drop (0+(0:Int).toNat*1+0+1)):List Value).length⟩,⟨am,x110.spares.length,ao,4,1,bd,(bd:List Value).length⟩,⟨bl,x173.legs.length,bn,39,2,dm,0⟩,⟨bj,bz.length,bk,96,3,ce.take (0+(0:Int).toNat*3+0)++([.int .i64 4]:List Value)++ce.drop (0+(0:Int).toNat*3+0+1),0⟩,⟨bm,x173.spares.length,bo,110,2,dt,0⟩,⟨bv,x174.length,x174.length,96,3,List.flatten (List.replicate x174.length ([.int .i64 0,.int .i64 0,.int .i64 0]:List Value)),((List.flatten (List.replicate x174.length ([.int .i64 0,.int .i64 0,.int .i64 0]:List Value))):List Value).length⟩,⟨g8,4,4,3,1,([.int .i64 40,.int .i64 30,.int .i64 45,.int .i64 50]:List Value),4⟩] lh:=mw
                   have hg:Ar ny bv x174.length x174:=⟨_,fl,aeu,dw.rowCap (i:=15) rfl⟩
                   obtain⟨x217,ex217,H⟩:=H
                   refine Aq _ rfl (Ai rm (by kernel_rfl)) fun K hK=>?_
                   refine wc [.agg (KH cj x171 cl bv x174 ck cm)] rm mw (CA n mw.has (Ag.mk x171.legs x171.turn x174 x171.spares x171.unit x171.gap x171.fr x171.to_) ((Aa (Ae fb) (Aa (Aa Ac Ac) (Aa (Ae hg) (Aa (Ae fc) (Aa Ac (Aa Ac (Aa Ac Ac))))))):rep ny (Ag.mk x171.legs x171.turn x174 x171.spares x171.unit x171.gap x171.fr x171.to_) _) ex217) fun amw qg aid vn b7 hd=>?_
                   replace ff:=ff.mono (QU cd b7)
                   replace fg:=fg.mono (QU cd b7)
                   replace gc:=gc.mono (QU cd b7)
                   replace fh:=fh.mono (QU cd b7)
                   replace fi:=fi.mono (QU cd b7)
                   replace fj:=fj.mono (QU cd b7)
                   replace fk:=fk.mono (QU cd b7)
                   replace gd:=gd.mono (QU cd b7)
                   replace gf:=gf.mono (QU cd b7)
                   replace go:=go.mono (QU cd b7)
                   replace gp:=gp.mono (QU cd b7)
                   replace gq:=gq.mono (QU cd b7)
                   replace f3:=f3.mono (QU cd b7)
                   replace f4:=f4.mono (QU cd b7)
                   replace f5:=f5.mono (QU cd b7)
                   replace gr:=gr.mono (QU cd b7)
                   replace gs:=gs.mono (QU cd b7)
                   replace gu:=gu.mono (QU cd b7)
                   replace fb:=fb.mono b7
                   replace fc:=fc.mono b7
                   replace f6:=f6.mono (QU cd b7)
                   replace f7:=f7.mono (QU cd b7)
                   replace g3:=g3.mono (QU cd b7)
                   replace g4:=g4.mono (QU cd b7)
                   replace hg:=hg.mono b7
                   replace ez:=ez.mono (QU cd b7)
                   replace e0:=e0.mono (QU cd b7)
                   replace e1:=e1.mono (QU cd b7)
                   replace e2:=e2.mono (QU cd b7)
                   replace e6:=e6.mono (QU cd b7)
                   replace e7:=e7.mono (QU cd b7)
                   replace gj:=gj.mono (QU cd b7)
                   replace gk:=gk.mono (QU cd b7)
                   replace gl:=gl.mono (QU cd b7)
                   replace e3:=e3.mono (QU cd b7)
                   replace e5:=e5.mono (QU cd b7)
                   replace e4:=e4.mono (QU cd b7)
                   replace fq:=fq.mono (QU cd b7)
                   replace ft:=ft.mono (QU cd b7)
                   replace fs:=fs.mono (QU cd b7)
                   replace fl:=fl.mono b7
                   replace fu:=fu.mono (QU cd b7)
                   obtain rfl:=vn
                   refine⟨.one (.c (.int .i64 x217)),rfl,fun ags (yu:Kn 238 (AJ a f g l m p q s u ac ad ae af ag ax az a0 a3 a4 a5 be bf bg bs) [tI 217 x217,tA 216 (KH cj x171 cl bv x174 ck cm),tB 215 true,tP 22 18 0,tP 21 17 0] ags)=>hK _ _ ?_⟩
                   refine AA 34 3 [220,22,21] [tB 220 (x217 == 3),tP 22 18 0,tP 21 17 0] yu (Am.peek hd.plOk hd 5 11 rfl rfl bx [.slice y 3 3] (b1 _)) (by kernel_rfl) fun uq rn=>?_
                   rcases Bool.eq_false_or_eq_true ((x217 == 3)) with ko | ko
                   ·
                    rw [ko,QW] at H
                    have yv:Kn 238 (AJ a f g l m p q s u ac ad ae af ag ax az a0 a3 a4 a5 be bf bg bs) [tB 220 true,tP 22 18 0,tP 21 17 0] uq:=(rn.setB 220 true (by rfl) ko).kp
                    refine AA 37 1 [221,220,22] [tA 221 (KG ca x178 b6 x172 cn cq co cr),tB 220 true,tP 22 18 0] yv (Am.peek hd.plOk hd 5 11 rfl rfl bx [.slice y 3 3] (b1 _)) (by kernel_rfl) fun aku ro=>?_
                    obtain⟨x222,ex222,H⟩:=H
                    refine Aq _ rfl (Ai ro (by kernel_rfl)) fun K hK=>?_
                    refine wc [.agg (KG ca x178 b6 x172 cn cq co cr)] ro hd (CA n hd.has (Ag.mk x178 x172.turn x172.buses x172.spares x172.unit x172.gap x172.fr x172.to_) ((Aa (Ae g3) (Aa (Aa Ac Ac) (Aa (Ae f6) (Aa (Ae f7) (Aa Ac (Aa Ac (Aa Ac Ac))))))):rep qg (Ag.mk x178 x172.turn x172.buses x172.spares x172.unit x172.gap x172.fr x172.to_) _) ex222) fun amx wq nx vo b8 he=>?_
                    replace ff:=ff.mono b8
                    replace fg:=fg.mono b8
                    replace gc:=gc.mono b8
                    replace fh:=fh.mono b8
                    replace fi:=fi.mono b8
                    replace fj:=fj.mono b8
                    replace fk:=fk.mono b8
                    replace gd:=gd.mono b8
                    replace gf:=gf.mono b8
                    replace go:=go.mono b8
                    replace gp:=gp.mono b8
                    replace gq:=gq.mono b8
                    replace f3:=f3.mono b8
                    replace f4:=f4.mono b8
                    replace f5:=f5.mono b8
                    replace gr:=gr.mono b8
                    replace gs:=gs.mono b8
                    replace gu:=gu.mono b8
                    replace fb:=fb.mono b8
                    replace fc:=fc.mono b8
                    replace f6:=f6.mono b8
                    replace f7:=f7.mono b8
                    replace g3:=g3.mono b8
                    replace g4:=g4.mono b8
                    replace hg:=hg.mono b8
                    replace ez:=ez.mono b8
                    replace e0:=e0.mono b8
                    replace e1:=e1.mono b8
                    replace e2:=e2.mono b8
                    replace e6:=e6.mono b8
                    replace e7:=e7.mono b8
                    replace gj:=gj.mono b8
                    replace gk:=gk.mono b8
                    replace gl:=gl.mono b8
                    replace e3:=e3.mono b8
                    replace e5:=e5.mono b8
                    replace e4:=e4.mono b8
                    replace fq:=fq.mono b8
                    replace ft:=ft.mono b8
                    replace fs:=fs.mono b8
                    replace fl:=fl.mono b8
                    replace fu:=fu.mono b8
                    obtain rfl:=vo
                    refine⟨.one (.c (.int .i64 x222)),rfl,fun agt (yw:Kn 238 (AJ a f g l m p q s u ac ad ae af ag ax az a0 a3 a4 a5 be bf bg bs) [tI 222 x222,tA 221 (KG ca x178 b6 x172 cn cq co cr),tB 220 true,tP 22 18 0] agt)=>hK _ _ ?_⟩
                    refine AA 39 3 [225,22] [tB 225 (x222 == 1),tP 22 18 0] yw (Am.peek he.plOk he 5 11 rfl rfl bx [.slice y 3 3] (b1 _)) (by kernel_rfl) fun ur rp=>?_
                    rcases Bool.eq_false_or_eq_true ((x222 == 1)) with kq | kq
                    ·
                     rw [kq,QW] at H
                     have yx:Kn 238 (AJ a f g l m p q s u ac ad ae af ag ax az a0 a3 a4 a5 be bf bg bs) [tB 225 true,tP 22 18 0] ur:=(rp.setB 225 true (by rfl) kq).kp
                     refine AA 42 1 [226,225] [tA 226 (Mk bl x173 bn bj bz bk bm bo),tB 225 true] yx (Am.peek he.plOk he 5 11 rfl rfl bx [.slice y 3 3] (b1 _)) (by kernel_rfl) fun akv rq=>?_
                     obtain⟨qh,b9,aev,mx⟩:=he.settle (i:=12) rfl
                     replace fq:=fq.mono b9
                     replace mx:Ah ⟨w,h,Az⟩ qh (AJ a f g l m p q s u ac ad ae af ag ax az a0 a3 a4 a5 be bf bg bs) (E5 z aa ab ap ay aq ar x109 av au aw al x110 an ah a2 ai am ao a9 x111 bb ba bc c7 x161 dd c8 de c9 df cv x164 cz cw c0 cx c1 da x168 dg db dh dc di cj x171 cl bv x174 ck cm ca x178 b6 x172 cn cq co cr bl x173 bn bj bz bk bm bo) [⟨z,2,2,3,1,([.int .i64 0,.int .i64 15]:List Value),2⟩,⟨aa,2,2,3,1,([.int .i64 0,.int .i64 0]:List Value),2⟩,⟨aj,3,3,3,1,([.int .i64 10,.int .i64 10,.int .i64 10]:List Value),3⟩,⟨ak,3,3,3,1,([.int .i64 10,.int .i64 10,.int .i64 10]:List Value),3⟩,⟨y,3,3,3,1,([.int .i64 10,.int .i64 16,.int .i64 10]:List Value),3⟩,⟨ab,3,3,31,1,([.slice aj 3 3,.slice ak 3 3,.slice y 3 3]:List Value),3⟩,⟨ap,ay.length,aq,3,1,a1.take (0+(0:Int).toNat*1+0)++([.int .i64 3]:List Value)++a1.drop (0+(0:Int).toNat*1+0+1),0⟩,⟨ar,x109.turns.length,av,3,1,bu,0⟩,⟨au,x109.spares.length,aw,4,1,bw,0⟩,⟨al,x110.holds.length,an,3,1,a6,(a6:List Value).length⟩,⟨ah,a2.length,ai,3,1,(d.take (0+(0:Int).toNat*1+0)++([.int .i64 1]:List Value)++d.drop (0+(0:Int).toNat*1+0+1)).take (0+(0:Int).toNat*1+0)++([.int .i64 0]:List Value)++(d.take (0+(0:Int).toNat*1+0)++([.int .i64 1]:List Value)++d.drop (0+(0:Int).toNat*1+0+1)).drop (0+(0:Int).toNat*1+0+1),(((d.take (0+(0:Int).toNat*1+0)++([.int .i64 1]:List Value)++d.drop (0+(0:Int).toNat*1+0+1)).take (0+(0:Int).toNat*1+0)++([.int .i64 0]:List Value)++(d.take (0+(0:Int).toNat*1+0)++([.int .i64 1]:List Value)++d.drop (0+(0:Int).toNat*1+0+1)).drop (0+(0:Int).toNat*1+0+1)):List Value).length⟩,⟨am,x110.spares.length,ao,4,1,bd,(bd:List Value).length⟩,⟨bl,x173.legs.length,bn,39,2,dm,(dm:List Value).length⟩,⟨bj,bz.length,bk,96,3,ce.take (0+(0:Int).toNat*3+0)++([.int .i64 4]:List Value)++ce.drop (0+(0:Int).toNat*3+0+1),0⟩,⟨bm,x173.spares.length,bo,110,2,dt,0⟩,⟨bv,x174.length,x174.length,96,3,List.flatten (List.replicate x174.length ([.int .i64 0,.int .i64 0,.int .i64 0]:List Value)),((List.flatten (List.replicate x174.length ([.int .i64 0,.int .i64 0,.int .i64 0]:List Value))):List Value).length⟩,⟨g8,4,4,3,1,([.int .i64 40,.int .i64 30,.int .i64 45,.int .i64 50]:List Value),4⟩] nx:=mx
                     have i2:Ar qh bl bn x173.legs:=⟨_,fq,aev,he.rowCap (i:=12) rfl⟩
                     obtain⟨qi,b5,aew,my⟩:=mx.settle (i:=13) rfl
                     replace ft:=ft.mono (QU b9 b5)
                     replace my:Ah ⟨w,h,Az⟩ qi (AJ a f g l m p q s u ac ad ae af ag ax az a0 a3 a4 a5 be bf bg bs) (E5 z aa ab ap ay aq ar x109 av au aw al x110 an ah a2 ai am ao a9 x111 bb ba bc c7 x161 dd c8 de c9 df cv x164 cz cw c0 cx c1 da x168 dg db dh dc di cj x171 cl bv x174 ck cm ca x178 b6 x172 cn cq co cr bl x173 bn bj bz bk bm bo) [⟨z,2,2,3,1,([.int .i64 0,.int .i64 15]:List Value),2⟩,⟨aa,2,2,3,1,([.int .i64 0,.int .i64 0]:List Value),2⟩,⟨aj,3,3,3,1,([.int .i64 10,.int .i64 10,.int .i64 10]:List Value),3⟩,⟨ak,3,3,3,1,([.int .i64 10,.int .i64 10,.int .i64 10]:List Value),3⟩,⟨y,3,3,3,1,([.int .i64 10,.int .i64 16,.int .i64 10]:List Value),3⟩,⟨ab,3,3,31,1,([.slice aj 3 3,.slice ak 3 3,.slice y 3 3]:List Value),3⟩,⟨ap,ay.length,aq,3,1,a1.take (0+(0:Int).toNat*1+0)++([.int .i64 3]:List Value)++a1.drop (0+(0:Int).toNat*1+0+1),0⟩,⟨ar,x109.turns.length,av,3,1,bu,0⟩,⟨au,x109.spares.length,aw,4,1,bw,0⟩,⟨al,x110.holds.length,an,3,1,a6,(a6:List Value).length⟩,⟨ah,a2.length,ai,3,1,(d.take (0+(0:Int).toNat*1+0)++([.int .i64 1]:List Value)++d.drop (0+(0:Int).toNat*1+0+1)).take (0+(0:Int).toNat*1+0)++([.int .i64 0]:List Value)++(d.take (0+(0:Int).toNat*1+0)++([.int .i64 1]:List Value)++d.drop (0+(0:Int).toNat*1+0+1)).drop (0+(0:Int).toNat*1+0+1),(((d.take (0+(0:Int).toNat*1+0)++([.int .i64 1]:List Value)++d.drop (0+(0:Int).toNat*1+0+1)).take (0+(0:Int).toNat*1+0)++([.int .i64 0]:List Value)++(d.take (0+(0:Int).toNat*1+0)++([.int .i64 1]:List Value)++d.drop (0+(0:Int).toNat*1+0+1)).drop (0+(0:Int).toNat*1+0+1)):List Value).length⟩,⟨am,x110.spares.length,ao,4,1,bd,(bd:List Value).length⟩,⟨bl,x173.legs.length,bn,39,2,dm,(dm:List Value).length⟩,⟨bj,bz.length,bk,96,3,ce.take (0+(0:Int).toNat*3+0)++([.int .i64 4]:List Value)++ce.drop (0+(0:Int).toNat*3+0+1),((ce.take (0+(0:Int).toNat*3+0)++([.int .i64 4]:List Value)++ce.drop (0+(0:Int).toNat*3+0+1)):List Value).length⟩,⟨bm,x173.spares.length,bo,110,2,dt,0⟩,⟨bv,x174.length,x174.length,96,3,List.flatten (List.replicate x174.length ([.int .i64 0,.int .i64 0,.int .i64 0]:List Value)),((List.flatten (List.replicate x174.length ([.int .i64 0,.int .i64 0,.int .i64 0]:List Value))):List Value).length⟩,⟨g8,4,4,3,1,([.int .i64 40,.int .i64 30,.int .i64 45,.int .i64 50]:List Value),4⟩] nx:=my
                     have i3:Ar qi bj bk bz:=⟨_,ft,aew,mx.rowCap (i:=13) rfl⟩
                     obtain⟨nz,b4,aex,mz⟩:=my.settle (i:=14) rfl
                     replace i2:=i2.mono (QU b5 b4)
                     replace i3:=i3.mono b4
                     replace fs:=fs.mono (QU (QU b9 b5) b4)
                     replace mz:Ah ⟨w,h,Az⟩ nz (AJ a f g l m p q s u ac ad ae af ag ax az a0 a3 a4 a5 be bf bg bs) (E5 z aa ab ap ay aq ar x109 av au aw al x110 an ah a2 ai am ao a9 x111 bb ba bc c7 x161 dd c8 de c9 df cv x164 cz cw c0 cx c1 da x168 dg db dh dc di cj x171 cl bv x174 ck cm ca x178 b6 x172 cn cq co cr bl x173 bn bj bz bk bm bo) [⟨z,2,2,3,1,([.int .i64 0,.int .i64 15]:List Value),2⟩,⟨aa,2,2,3,1,([.int .i64 0,.int .i64 0]:List Value),2⟩,⟨aj,3,3,3,1,([.int .i64 10,.int .i64 10,.int .i64 10]:List Value),3⟩,⟨ak,3,3,3,1,([.int .i64 10,.int .i64 10,.int .i64 10]:List Value),3⟩,⟨y,3,3,3,1,([.int .i64 10,.int .i64 16,.int .i64 10]:List Value),3⟩,⟨ab,3,3,31,1,([.slice aj 3 3,.slice ak 3 3,.slice y 3 3]:List Value),3⟩,⟨ap,ay.length,aq,3,1,a1.take (0+(0:Int).toNat*1+0)++([.int .i64 3]:List Value)++a1.drop (0+(0:Int).toNat*1+0+1),0⟩,⟨ar,x109.turns.length,av,3,1,bu,0⟩,⟨au,x109.spares.length,aw,4,1,bw,0⟩,⟨al,x110.holds.length,an,3,1,a6,(a6:List Value).length⟩,⟨ah,a2.length,ai,3,1,(d.take (0+(0:Int).toNat*1+0)++([.int .i64 1]:List Value)++d.drop (0+(0:Int).toNat*1+0+1)).take (0+(0:Int).toNat*1+0)++([.int .i64 0]:List Value)++(d.take (0+(0:Int).toNat*1+0)++([.int .i64 1]:List Value)++d.drop (0+(0:Int).toNat*1+0+1)).drop (0+(0:Int).toNat*1+0+1),(((d.take (0+(0:Int).toNat*1+0)++([.int .i64 1]:List Value)++d.drop (0+(0:Int).toNat*1+0+1)).take (0+(0:Int).toNat*1+0)++([.int .i64 0]:List Value)++(d.take (0+(0:Int).toNat*1+0)++([.int .i64 1]:List Value)++d.drop (0+(0:Int).toNat*1+0+1)).drop (0+(0:Int).toNat*1+0+1)):List Value).length⟩,⟨am,x110.spares.length,ao,4,1,bd,(bd:List Value).length⟩,⟨bl,x173.legs.length,bn,39,2,dm,(dm:List Value).length⟩,⟨bj,bz.length,bk,96,3,ce.take (0+(0:Int).toNat*3+0)++([.int .i64 4]:List Value)++ce.drop (0+(0:Int).toNat*3+0+1),((ce.take (0+(0:Int).toNat*3+0)++([.int .i64 4]:List Value)++ce.drop (0+(0:Int).toNat*3+0+1)):List Value).length⟩,⟨bm,x173.spares.length,bo,110,2,dt,(dt:List Value).length⟩,⟨bv,x174.length,x174.length,96,3,List.flatten (List.replicate x174.length ([.int .i64 0,.int .i64 0,.int .i64 0]:List Value)),((List.flatten (List.replicate x174.length ([.int .i64 0,.int .i64 0,.int .i64 0]:List Value))):List Value).length⟩,⟨g8,4,4,3,1,([.int .i64 40,.int .i64 30,.int .i64 45,.int .i64 50]:List Value),4⟩] nx:=mz
                     have ld:Ar nz bm bo x173.spares:=⟨_,fs,aex,my.rowCap (i:=14) rfl⟩
                     obtain⟨x227,ex227,H⟩:=H
                     refine Aq _ rfl (Ai rq (by kernel_rfl)) fun K hK=>?_
                     refine wc [.agg (Mk bl x173 bn bj bz bk bm bo)] rq mz (CA n mz.has (Ag.mk x173.legs x173.turn bz x173.spares x173.unit x173.gap x173.fr x173.to_) ((Aa (Ae i2) (Aa (Aa Ac Ac) (Aa (Ae i3) (Aa (Ae ld) (Aa Ac (Aa Ac (Aa Ac Ac))))))):rep nz (Ag.mk x173.legs x173.turn bz x173.spares x173.unit x173.gap x173.fr x173.to_) _) ex227) fun amy qj aie vq b2 hf=>?_
                     replace ff:=ff.mono (QU (QU (QU b9 b5) b4) b2)
                     replace fg:=fg.mono (QU (QU (QU b9 b5) b4) b2)
                     replace gc:=gc.mono (QU (QU (QU b9 b5) b4) b2)
                     replace fh:=fh.mono (QU (QU (QU b9 b5) b4) b2)
                     replace fi:=fi.mono (QU (QU (QU b9 b5) b4) b2)
                     replace fj:=fj.mono (QU (QU (QU b9 b5) b4) b2)
                     replace fk:=fk.mono (QU (QU (QU b9 b5) b4) b2)
                     replace gd:=gd.mono (QU (QU (QU b9 b5) b4) b2)
                     replace gf:=gf.mono (QU (QU (QU b9 b5) b4) b2)
                     replace go:=go.mono (QU (QU (QU b9 b5) b4) b2)
                     replace gp:=gp.mono (QU (QU (QU b9 b5) b4) b2)
                     replace gq:=gq.mono (QU (QU (QU b9 b5) b4) b2)
                     replace f3:=f3.mono (QU (QU (QU b9 b5) b4) b2)
                     replace f4:=f4.mono (QU (QU (QU b9 b5) b4) b2)
                     replace f5:=f5.mono (QU (QU (QU b9 b5) b4) b2)
                     replace gr:=gr.mono (QU (QU (QU b9 b5) b4) b2)
                     replace gs:=gs.mono (QU (QU (QU b9 b5) b4) b2)
                     replace gu:=gu.mono (QU (QU (QU b9 b5) b4) b2)
                     replace fb:=fb.mono (QU (QU (QU b9 b5) b4) b2)
                     replace fc:=fc.mono (QU (QU (QU b9 b5) b4) b2)
                     replace f6:=f6.mono (QU (QU (QU b9 b5) b4) b2)
                     replace f7:=f7.mono (QU (QU (QU b9 b5) b4) b2)
                     replace g3:=g3.mono (QU (QU (QU b9 b5) b4) b2)
                     replace g4:=g4.mono (QU (QU (QU b9 b5) b4) b2)
                     replace hg:=hg.mono (QU (QU (QU b9 b5) b4) b2)
                     replace i2:=i2.mono b2
                     replace i3:=i3.mono b2
                     replace ld:=ld.mono b2
                     replace ez:=ez.mono (QU (QU (QU b9 b5) b4) b2)
                     replace e0:=e0.mono (QU (QU (QU b9 b5) b4) b2)
                     replace e1:=e1.mono (QU (QU (QU b9 b5) b4) b2)
                     replace e2:=e2.mono (QU (QU (QU b9 b5) b4) b2)
                     replace e6:=e6.mono (QU (QU (QU b9 b5) b4) b2)
                     replace e7:=e7.mono (QU (QU (QU b9 b5) b4) b2)
                     replace gj:=gj.mono (QU (QU (QU b9 b5) b4) b2)
                     replace gk:=gk.mono (QU (QU (QU b9 b5) b4) b2)
                     replace gl:=gl.mono (QU (QU (QU b9 b5) b4) b2)
                     replace e3:=e3.mono (QU (QU (QU b9 b5) b4) b2)
                     replace e5:=e5.mono (QU (QU (QU b9 b5) b4) b2)
                     replace e4:=e4.mono (QU (QU (QU b9 b5) b4) b2)
                     replace fq:=fq.mono (QU (QU b5 b4) b2)
                     replace ft:=ft.mono (QU b4 b2)
                     replace fs:=fs.mono b2
                     replace fl:=fl.mono (QU (QU (QU b9 b5) b4) b2)
                     replace fu:=fu.mono (QU (QU (QU b9 b5) b4) b2)
                     obtain rfl:=vq
                     refine⟨.one (.c (.int .i64 x227)),rfl,fun agu (yy:Kn 238 (AJ a f g l m p q s u ac ad ae af ag ax az a0 a3 a4 a5 be bf bg bs) [tI 227 x227,tA 226 (Mk bl x173 bn bj bz bk bm bo),tB 225 true] agu)=>hK _ _ ?_⟩
                     refine AA 44 3 [230] [tB 230 (x227 == 1)] yy (Am.peek hf.plOk hf 5 11 rfl rfl bx [.slice y 3 3] (b1 _)) (by kernel_rfl) fun ut rr=>?_
                     rcases Bool.eq_false_or_eq_true ((x227 == 1)) with kr | kr
                     ·
                      rw [kr,QW] at H
                      have yz:Kn 238 (AJ a f g l m p q s u ac ad ae af ag ax az a0 a3 a4 a5 be bf bg bs) [tB 230 true] ut:=(rr.setB 230 true (by rfl) kr).kp
                      refine AA 47 1 [231,230] [tA 231 Ih,tB 230 true] yz (Am.peek hf.plOk hf 5 11 rfl rfl bx [.slice y 3 3] (b1 _)) (by kernel_rfl) fun akw rs=>?_
                      obtain⟨x232,ex232,H⟩:=H
                      refine Aq _ rfl (Ai rs (by kernel_rfl)) fun K hK=>?_
                      refine wc [.agg Ih] rs hf (CA n hf.has (Ag.mk ([]:List Rg) (Rg.mk 0 0) ([]:List Ct) ([]:List AP) 0 0 0 0) ((Aa (Ae Ar.nil) (Aa (Aa Ac Ac) (Aa (Ae Ar.nil) (Aa (Ae Ar.nil) (Aa Ac (Aa Ac (Aa Ac Ac))))))):rep qj (Ag.mk ([]:List Rg) (Rg.mk 0 0) ([]:List Ct) ([]:List AP) 0 0 0 0) _) ex232) fun amz wr aif vr b3 iz=>?_
                      replace ff:=ff.mono b3
                      replace fg:=fg.mono b3
                      replace gc:=gc.mono b3
                      replace fh:=fh.mono b3
                      replace fi:=fi.mono b3
                      replace fj:=fj.mono b3
                      replace fk:=fk.mono b3
                      replace gd:=gd.mono b3
                      replace gf:=gf.mono b3
                      replace go:=go.mono b3
                      replace gp:=gp.mono b3
                      replace gq:=gq.mono b3
                      replace f3:=f3.mono b3
                      replace f4:=f4.mono b3
                      replace f5:=f5.mono b3
                      replace gr:=gr.mono b3
                      replace gs:=gs.mono b3
                      replace gu:=gu.mono b3
                      replace fb:=fb.mono b3
                      replace fc:=fc.mono b3
                      replace f6:=f6.mono b3
                      replace f7:=f7.mono b3
                      replace g3:=g3.mono b3
                      replace g4:=g4.mono b3
                      replace hg:=hg.mono b3
                      replace i2:=i2.mono b3
                      replace i3:=i3.mono b3
                      replace ld:=ld.mono b3
                      replace ez:=ez.mono b3
                      replace e0:=e0.mono b3
                      replace e1:=e1.mono b3
                      replace e2:=e2.mono b3
                      replace e6:=e6.mono b3
                      replace e7:=e7.mono b3
                      replace gj:=gj.mono b3
                      replace gk:=gk.mono b3
                      replace gl:=gl.mono b3
                      replace e3:=e3.mono b3
                      replace e5:=e5.mono b3
                      replace e4:=e4.mono b3
                      replace fq:=fq.mono b3
                      replace ft:=ft.mono b3
                      replace fs:=fs.mono b3
                      replace fl:=fl.mono b3
                      replace fu:=fu.mono b3
                      obtain rfl:=vr
                      refine⟨.one (.c (.int .i64 x232)),rfl,fun agv (y0:Kn 238 (AJ a f g l m p q s u ac ad ae af ag ax az a0 a3 a4 a5 be bf bg bs) [tI 232 x232,tA 231 Ih,tB 230 true] agv)=>hK _ _ ?_⟩
                      refine AA 49 3 [235] [tB 235 (x232 == 1)] y0 (Am.peek iz.plOk iz 5 11 rfl rfl bx [.slice y 3 3] (b1 _)) (by kernel_rfl) fun uu ru=>?_
                      rcases Bool.eq_false_or_eq_true ((x232 == 1)) with ks | ks
                      ·
                       rw [ks,QW] at H
                       have rv:Kn 238 (AJ a f g l m p q s u ac ad ae af ag ax az a0 a3 a4 a5 be bf bg bs) [tB 235 true] uu:=(ru.setB 235 true (by rfl) ks).kp
                       obtain⟨x236,ex236,H⟩:=H
                       refine Aq _ rfl (Ai rv (by kernel_rfl)) fun K hK=>?_
                       refine wc [] rv iz (Mf n iz.has  ex236) fun am0 ws aig vs ajw og=>?_
                       obtain rfl:=vs
                       refine⟨.one (.c (.bool x236)),rfl,fun agw (y1:Kn 238 (AJ a f g l m p q s u ac ad ae af ag ax az a0 a3 a4 a5 be bf bg bs) [tB 236 x236,tB 235 true] agw)=>hK _ _ ?_⟩
                       refine AA 53 2 [0] [tB 0 x236] y1 (Am.peek og.plOk og 5 11 rfl rfl bx [.slice y 3 3] (b1 _)) (by kernel_rfl) fun akx y2=>?_
                       refine wf ?_
                       have ac9:Ah ⟨w,h,Az⟩ ws (AJ a f g l m p q s u ac ad ae af ag ax az a0 a3 a4 a5 be bf bg bs) (E5 z aa ab ap ay aq ar x109 av au aw al x110 an ah a2 ai am ao a9 x111 bb ba bc c7 x161 dd c8 de c9 df cv x164 cz cw c0 cx c1 da x168 dg db dh dc di cj x171 cl bv x174 ck cm ca x178 b6 x172 cn cq co cr bl x173 bn bj bz bk bm bo) (N8 z aa aj ak y ab ap ay aq a1 ar x109 av bu au aw bw al x110 an a6 ah a2 ai d am ao bd bl x173 bn dm bj bz bk ce bm bo dt bv x174) aig:=og.cutRw 16
                       refine wp_ret ?_
                       exact rt (.one (.c (.bool x236))) y2 ac9 ⟨_,H,rfl⟩
                      ·
                       rw [ks,QV] at H
                       have y3:Kn 238 (AJ a f g l m p q s u ac ad ae af ag ax az a0 a3 a4 a5 be bf bg bs) [tB 235 false] uu:=(ru.setB 235 false (by rfl) ks).kp
                       refine AA 52 3 [0] [tB 0 false] y3 (Am.peek iz.plOk iz 5 11 rfl rfl bx [.slice y 3 3] (b1 _)) (by kernel_rfl) fun aky y4=>?_
                       refine wf ?_
                       have ada:Ah ⟨w,h,Az⟩ wr (AJ a f g l m p q s u ac ad ae af ag ax az a0 a3 a4 a5 be bf bg bs) (E5 z aa ab ap ay aq ar x109 av au aw al x110 an ah a2 ai am ao a9 x111 bb ba bc c7 x161 dd c8 de c9 df cv x164 cz cw c0 cx c1 da x168 dg db dh dc di cj x171 cl bv x174 ck cm ca x178 b6 x172 cn cq co cr bl x173 bn bj bz bk bm bo) (N8 z aa aj ak y ab ap ay aq a1 ar x109 av bu au aw bw al x110 an a6 ah a2 ai d am ao bd bl x173 bn dm bj bz bk ce bm bo dt bv x174) aif:=iz.cutRw 16
                       refine wp_ret ?_
                       exact rt (.one (.c (.bool false))) y4 ada ⟨_,H,rfl⟩
                     ·
                      rw [kr,QV] at H
                      have y5:Kn 238 (AJ a f g l m p q s u ac ad ae af ag ax az a0 a3 a4 a5 be bf bg bs) [tB 230 false] ut:=(rr.setB 230 false (by rfl) kr).kp
                      refine AA 47 8 [0] [tB 0 false] y5 (Am.peek hf.plOk hf 5 11 rfl rfl bx [.slice y 3 3] (b1 _)) (by kernel_rfl) fun akz y6=>?_
                      refine wf ?_
                      have adb:Ah ⟨w,h,Az⟩ qj (AJ a f g l m p q s u ac ad ae af ag ax az a0 a3 a4 a5 be bf bg bs) (E5 z aa ab ap ay aq ar x109 av au aw al x110 an ah a2 ai am ao a9 x111 bb ba bc c7 x161 dd c8 de c9 df cv x164 cz cw c0 cx c1 da x168 dg db dh dc di cj x171 cl bv x174 ck cm ca x178 b6 x172 cn cq co cr bl x173 bn bj bz bk bm bo) (N8 z aa aj ak y ab ap ay aq a1 ar x109 av bu au aw bw al x110 an a6 ah a2 ai d am ao bd bl x173 bn dm bj bz bk ce bm bo dt bv x174) aie:=hf.cutRw 16
                      refine wp_ret ?_
                      exact rt (.one (.c (.bool false))) y6 adb ⟨_,H,rfl⟩
                    ·
                     rw [kq,QV] at H
                     have y7:Kn 238 (AJ a f g l m p q s u ac ad ae af ag ax az a0 a3 a4 a5 be bf bg bs) [tB 225 false,tP 22 18 0] ur:=(rp.setB 225 false (by rfl) kq).kp
                     refine AA 42 13 [0] [tB 0 false] y7 (Am.peek he.plOk he 5 11 rfl rfl bx [.slice y 3 3] (b1 _)) (by kernel_rfl) fun ak0 y8=>?_
                     refine wf ?_
                     have adc:Ah ⟨w,h,Az⟩ wq (AJ a f g l m p q s u ac ad ae af ag ax az a0 a3 a4 a5 be bf bg bs) (E5 z aa ab ap ay aq ar x109 av au aw al x110 an ah a2 ai am ao a9 x111 bb ba bc c7 x161 dd c8 de c9 df cv x164 cz cw c0 cx c1 da x168 dg db dh dc di cj x171 cl bv x174 ck cm ca x178 b6 x172 cn cq co cr bl x173 bn bj bz bk bm bo) (OM z aa aj ak y ab ap ay aq a1 ar x109 av bu au aw bw al x110 an a6 ah a2 ai d am ao bd bl x173 bn dm bj bz bk ce bm bo dt bv x174) nx:=he.cutRw 16
                     refine wp_ret ?_
                     exact rt (.one (.c (.bool false))) y8 adc ⟨_,H,rfl⟩
                   ·
                    rw [ko,QV] at H
                    have y9:Kn 238 (AJ a f g l m p q s u ac ad ae af ag ax az a0 a3 a4 a5 be bf bg bs) [tB 220 false,tP 22 18 0,tP 21 17 0] uq:=(rn.setB 220 false (by rfl) ko).kp
                    refine AA 37 18 [0] [tB 0 false] y9 (Am.peek hd.plOk hd 5 11 rfl rfl bx [.slice y 3 3] (b1 _)) (by kernel_rfl) fun ak1 za=>?_
                    refine wf ?_
                    have add:Ah ⟨w,h,Az⟩ qg (AJ a f g l m p q s u ac ad ae af ag ax az a0 a3 a4 a5 be bf bg bs) (E5 z aa ab ap ay aq ar x109 av au aw al x110 an ah a2 ai am ao a9 x111 bb ba bc c7 x161 dd c8 de c9 df cv x164 cz cw c0 cx c1 da x168 dg db dh dc di cj x171 cl bv x174 ck cm ca x178 b6 x172 cn cq co cr bl x173 bn bj bz bk bm bo) (OM z aa aj ak y ab ap ay aq a1 ar x109 av bu au aw bw al x110 an a6 ah a2 ai d am ao bd bl x173 bn dm bj bz bk ce bm bo dt bv x174) aid:=hd.cutRw 16
                    refine wp_ret ?_
                    exact rt (.one (.c (.bool false))) za add ⟨_,H,rfl⟩
                  ·
                   rw [kn,QV] at H
                   have zb:Kn 238 (AJ a f g l m p q s u ac ad ae af ag ax az a0 a3 a4 a5 be bf bg bs) [tB 215 false,tP 22 18 0,tP 21 17 0,tP 20 16 0] uo:=(rl.setB 215 false (by rfl) kn).kp
                   refine AA 32 23 [0] [tB 0 false] zb (Am.peek dw.plOk dw 5 11 rfl rfl bx [.slice y 3 3] (b1 _)) (by kernel_rfl) fun ak2 zc=>?_
                   refine wf ?_
                   have ade:Ah ⟨w,h,Az⟩ me (AJ a f g l m p q s u ac ad ae af ag ax az a0 a3 a4 a5 be bf bg bs) (E5 z aa ab ap ay aq ar x109 av au aw al x110 an ah a2 ai am ao a9 x111 bb ba bc c7 x161 dd c8 de c9 df cv x164 cz cw c0 cx c1 da x168 dg db dh dc di cj x171 cl bv x174 ck cm ca x178 b6 x172 cn cq co cr bl x173 bn bj bz bk bm bo) (Mm z aa aj ak y ab ap ay aq a1 ar x109 av bu au aw bw al x110 an a6 ah a2 ai d am ao bd bl x173 bn dm bj bz bk ce bm bo dt bv x174) lh:=dw.cutRw 16
                   refine wp_ret ?_
                   exact rt (.one (.c (.bool false))) zc ade ⟨_,H,rfl⟩
                 ·
                  rw [km,QV] at H
                  have zd:Kn 238 (AJ a f g l m p q s u ac ad ae af ag ax az a0 a3 a4 a5 be bf bg bs) [tB 211 false,tP 22 18 0,tP 21 17 0,tP 20 16 0,tI 19 x168.2] un:=(rk.setB 211 false (by rfl) km).kp
                  refine AA 28 27 [0] [tB 0 false] zd (Am.peek dw.plOk dw 5 11 rfl rfl bx [.slice y 3 3] (b1 _)) (by kernel_rfl) fun ak3 ze=>?_
                  refine wf ?_
                  have adf:Ah ⟨w,h,Az⟩ me (AJ a f g l m p q s u ac ad ae af ag ax az a0 a3 a4 a5 be bf bg bs) (E5 z aa ab ap ay aq ar x109 av au aw al x110 an ah a2 ai am ao a9 x111 bb ba bc c7 x161 dd c8 de c9 df cv x164 cz cw c0 cx c1 da x168 dg db dh dc di cj x171 cl bv x174 ck cm ca x178 b6 x172 cn cq co cr bl x173 bn bj bz bk bm bo) (Mm z aa aj ak y ab ap ay aq a1 ar x109 av bu au aw bw al x110 an a6 ah a2 ai d am ao bd bl x173 bn dm bj bz bk ce bm bo dt bv x174) lh:=dw.cutRw 16
                  refine wp_ret ?_
                  exact rt (.one (.c (.bool false))) ze adf ⟨_,H,rfl⟩
                ·
                 rw [kl,QV] at H
                 have zf:Kn 238 (AJ a f g l m p q s u ac ad ae af ag ax az a0 a3 a4 a5 be bf bg bs) [tB 207 false,tP 22 18 0,tP 21 17 0,tP 20 16 0,tI 19 x168.2,tI 16 x161.2] um:=(rj.setB 207 false (by rfl) kl).kp
                 refine AA 24 31 [0] [tB 0 false] zf (Am.peek dw.plOk dw 5 11 rfl rfl bx [.slice y 3 3] (b1 _)) (by kernel_rfl) fun ak4 zg=>?_
                 refine wf ?_
                 have adg:Ah ⟨w,h,Az⟩ me (AJ a f g l m p q s u ac ad ae af ag ax az a0 a3 a4 a5 be bf bg bs) (E5 z aa ab ap ay aq ar x109 av au aw al x110 an ah a2 ai am ao a9 x111 bb ba bc c7 x161 dd c8 de c9 df cv x164 cz cw c0 cx c1 da x168 dg db dh dc di cj x171 cl bv x174 ck cm ca x178 b6 x172 cn cq co cr bl x173 bn bj bz bk bm bo) (Mm z aa aj ak y ab ap ay aq a1 ar x109 av bu au aw bw al x110 an a6 ah a2 ai d am ao bd bl x173 bn dm bj bz bk ce bm bo dt bv x174) lh:=dw.cutRw 16
                 refine wp_ret ?_
                 exact rt (.one (.c (.bool false))) zg adg ⟨_,H,rfl⟩
               ·
                rw [kk,QV] at H
                have zh:Kn 238 (AJ a f g l m p q s u ac ad ae af ag ax az a0 a3 a4 a5 be bf bg bs) [tB 203 false,tP 22 18 0,tP 21 17 0,tP 20 16 0,tI 19 x168.2,tI 16 x161.2,tI 14 x155.2] ul:=(ri.setB 203 false (by rfl) kk).kp
                refine AA 20 35 [0] [tB 0 false] zh (Am.peek dw.plOk dw 5 11 rfl rfl bx [.slice y 3 3] (b1 _)) (by kernel_rfl) fun ak5 zi=>?_
                refine wf ?_
                have adh:Ah ⟨w,h,Az⟩ me (AJ a f g l m p q s u ac ad ae af ag ax az a0 a3 a4 a5 be bf bg bs) (E5 z aa ab ap ay aq ar x109 av au aw al x110 an ah a2 ai am ao a9 x111 bb ba bc c7 x161 dd c8 de c9 df cv x164 cz cw c0 cx c1 da x168 dg db dh dc di cj x171 cl bv x174 ck cm ca x178 b6 x172 cn cq co cr bl x173 bn bj bz bk bm bo) (Mm z aa aj ak y ab ap ay aq a1 ar x109 av bu au aw bw al x110 an a6 ah a2 ai d am ao bd bl x173 bn dm bj bz bk ce bm bo dt bv x174) lh:=dw.cutRw 16
                refine wp_ret ?_
                exact rt (.one (.c (.bool false))) zi adh ⟨_,H,rfl⟩
              ·
               rw [kj,QV] at H
               have zj:Kn 238 (AJ a f g l m p q s u ac ad ae af ag ax az a0 a3 a4 a5 be bf bg bs) [tB 198 false,tP 22 18 0,tP 21 17 0,tP 20 16 0,tI 19 x168.2,tI 16 x161.2,tI 14 x155.2,tS 11 a7 x143.1.length a8] uk:=(rf.setB 198 false (by rfl) kj).kp
               refine AA 15 40 [0] [tB 0 false] zj (Am.peek d0.plOk d0 5 11 rfl rfl bx [.slice y 3 3] (b1 _)) (by kernel_rfl) fun ak6 zk=>?_
               refine wf (wp_ret ?_)
               exact rt (.one (.c (.bool false))) zk d0 ⟨_,H,rfl⟩
             ·
              rw [ki,QV] at H
              have zl:Kn 238 (AJ a f g l m p q s u ac ad ae af ag ax az a0 a3 a4 a5 be bf bg bs) [tB 194 false,tP 22 18 0,tP 21 17 0,tP 20 16 0,tI 19 x168.2,tI 16 x161.2,tI 14 x155.2,tI 12 x143.2,tS 11 a7 x143.1.length a8] uj:=(re.setB 194 false (by rfl) ki).kp
              refine AA 11 44 [0] [tB 0 false] zl (Am.peek d0.plOk d0 5 11 rfl rfl bx [.slice y 3 3] (b1 _)) (by kernel_rfl) fun ak7 zm=>?_
              refine wf (wp_ret ?_)
              exact rt (.one (.c (.bool false))) zm d0 ⟨_,H,rfl⟩
            ·
             rw [kh,QV] at H
             have zn:Kn 238 (AJ a f g l m p q s u ac ad ae af ag ax az a0 a3 a4 a5 be bf bg bs) [tB 190 false,tP 22 18 0,tP 21 17 0,tP 20 16 0,tI 19 x168.2,tI 16 x161.2,tI 14 x155.2,tI 12 x143.2,tS 11 a7 x143.1.length a8,tI 7 x134.2] ui:=(rd.setB 190 false (by rfl) kh).kp
             refine AA 7 48 [0] [tB 0 false] zn (Am.peek d0.plOk d0 5 11 rfl rfl bx [.slice y 3 3] (b1 _)) (by kernel_rfl) fun ak8 zo=>?_
             refine wf (wp_ret ?_)
             exact rt (.one (.c (.bool false))) zo d0 ⟨_,H,rfl⟩
           ·
            rw [kg,QV] at H
            have zp:Kn 238 (AJ a f g l m p q s u ac ad ae af ag ax az a0 a3 a4 a5 be bf bg bs) [tB 186 false,tP 22 18 0,tP 21 17 0,tP 20 16 0,tI 19 x168.2,tI 16 x161.2,tI 14 x155.2,tI 12 x143.2,tS 11 a7 x143.1.length a8,tI 7 x134.2,tI 5 x128.2] uh:=(rc.setB 186 false (by rfl) kg).kp
            refine AA 3 52 [0] [tB 0 false] zp (Am.peek d0.plOk d0 5 11 rfl rfl bx [.slice y 3 3] (b1 _)) (by kernel_rfl) fun ak9 zq=>?_
            refine wf (wp_ret ?_)
            exact rt (.one (.c (.bool false))) zq d0 ⟨_,H,rfl⟩
end Go.Proofs.Ytokchpjijlebiaa
