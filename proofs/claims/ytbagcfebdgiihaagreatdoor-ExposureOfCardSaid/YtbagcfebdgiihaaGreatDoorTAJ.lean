/-
  Shared texts of this claim.
-/
import Derived.Test.YtbagcfebdgiihaaGreatDoorProg
import Derived.Test.YtbagcfebdgiihaaGreatDoorTAI
import Derived.Shelf.Sort.Plain
import Derived.Shelf.Slices.Clone
import Derived.Shelf.Slices.CompactI
import Derived.Shelf.Slices.In.SortNone
import Derived.Sort.OwnSortedInts
set_option linter.unusedVariables false
set_option maxRecDepth 100000
noncomputable section
namespace Rm
open Go Go.Proofs Cx
abbrev I:Ty:=.int .i64
abbrev Y0:Ty:=.agg [.str,I,I,(.slice I),(.slice I),(.slice I)]
abbrev Y1:Ty:=.agg [I]
abbrev Y2:Ty:=.agg [.str,I,I]
abbrev Y3:Ty:=.agg [I,I,.bool]
abbrev Y4:Ty:=.agg [I,I,I,(.slice .trm)]
abbrev Y5:Ty:=.agg [.str,.bool,(.slice Y3),(.slice Y4)]
abbrev Y6:Ty:=.agg [I,I,I]
abbrev Y7:Ty:=.agg [I,I,I,I,I]
abbrev Y8:Ty:=.agg [(.slice .str),(.slice Y0),(.slice Y1),(.slice Y2),(.slice Y5),(.slice Y6),(.slice Y7),(.slice Y6)]
abbrev Y9:Ty:=.agg [I,I,I,I,I,I,I,I,I]
abbrev pI:Ty:=.agg [I,I]
abbrev eI:Ty:=.agg [I,I,I,I,I,I,I,I,I,I,I,I,I,I,I,(.slice Y9),(.slice pI),(.slice Y9),(.slice Y6)]
abbrev pJ:Ty:=.agg [I,(.slice I)]
abbrev Td:Ty:=.agg [I,I,I,I,I,I,.bool]
abbrev zJ:Ty:=.agg [.bool,I,I,(.slice I),I]
abbrev oa:Ty:=.agg [I,I,I,I,I,I,I,I,I,I,I,I,I,I,I,(.slice Y9),(.slice pI),(.slice Y9),(.slice Y6),I,I,I,I,I]
abbrev D5:Ty:=.agg [I,I,I,I,I,I,I,I,I,I,I,I,I,I,I]
abbrev D6:Ty:=.agg [(.slice .str),(.slice Y0),(.slice Y1),(.slice Y2),(.slice Y5),(.slice Y6),(.slice Y7),(.slice Y6),I,I,I,I,I,I,I,I,I,I,I,I,I,I,I,I,I,(.slice Y9),(.slice pI),(.slice Y9),(.slice Y6),I,I]
abbrev jR:Ty:=.agg [.bool,I]
abbrev pK:Ty:=.agg [I,I,(.slice .trm)]
abbrev Te:Ty:=.agg [(.slice jR)]
abbrev Y21:Ty:=.agg [(.slice I),I]
def sT:List (Nat×Sig):=[
 (4,⟨[Y8,I,eI,I,(.int .u64),(.slice I)],.bool,.dat⟩),
 (5,⟨[Y8,I,(.slice eI),I],.bool,.dat⟩),
 (12,⟨[],.bool,.dat⟩),
 (13,⟨[Y8,eI],.bool,.dat⟩),
 (14,⟨[Y8],I,.dat⟩),
 (15,⟨[eI],.bool,.dat⟩),
 (16,⟨[Y8,eI],I,.dat⟩),
 (17,⟨[Y8,I,(.slice eI),I],(.slice pJ),.dat⟩),
 (18,⟨[(.slice pJ),(.slice I)],I,.dat⟩),
 (19,⟨[Y8],.bool,.dat⟩),
 (20,⟨[(.slice pJ)],.bool,.dat⟩),
 (21,⟨[Y8,I,eI,I],(.slice Td),.dat⟩),
 (22,⟨[Y8,I],(.slice I),.dat⟩),
 (29,⟨[eI,I],eI,.dat⟩),
 (31,⟨[Y8,I,eI,I],I,.dat⟩),
 (32,⟨[zJ],I,.dat⟩),
 (33,⟨[Y8,I,I,oa],zJ,.dat⟩),
 (35,⟨[zJ],I,.dat⟩),
 (45,⟨[],(.slice pJ),.dat⟩),
 (46,⟨[(.slice pJ),I,I],(.tup [I,(.slice I),I]),.dat⟩),
 (47,⟨[(.slice I),(.slice I)],.bool,.dat⟩),
 (48,⟨[(.slice pJ),I],(.slice I),.dat⟩),
 (49,⟨[(.slice pJ),(.slice I)],(.slice I),.dat⟩),
 (50,⟨[eI],.bool,.dat⟩),
 (51,⟨[Y5],.bool,.dat⟩),
 (52,⟨[Y8],(.tup [(.slice .str),(.slice .str),(.slice .str)]),.dat⟩),
 (53,⟨[(.slice .str),I,(.fn [I] .bool)],I,.dat⟩),
 (54,⟨[I],.bool,.dat⟩),
 (55,⟨[I,(.ref Y8)],.bool,.dat⟩),
 (56,⟨[Y8,Y0],.bool,.dat⟩),
 (57,⟨[I,I],.bool,.dat⟩),
 (58,⟨[I,(.ref Y8)],.bool,.dat⟩),
 (59,⟨[I,(.ref Y8)],.bool,.dat⟩),
 (60,⟨[Y5],.bool,.dat⟩),
 (61,⟨[Y8],I,.dat⟩),
 (62,⟨[Y8],I,.dat⟩),
 (63,⟨[Y8,D5],I,.dat⟩),
 (64,⟨[Y8,eI,I],I,.dat⟩),
 (65,⟨[I,I,I],.bool,.dat⟩),
 (66,⟨[Y8,eI],I,.dat⟩),
 (67,⟨[eI],I,.dat⟩),
 (68,⟨[(.slice I)],(.tup []),(.ob [(.obj 0 0)] [(0,(.row 3 I))])⟩),
 (69,⟨[(.slice I)],(.slice I),(.ob [(.obj 0 0)] [(0,(.row 3 I)),(1,.tr)])⟩),
 (70,⟨[(.slice pJ),(.slice (.int .u32)),(.int .u32)],I,.dat⟩),
 (71,⟨[(.slice pJ)],(.slice (.int .u32)),.dat⟩),
 (72,⟨[(.slice I)],(.int .u32),.dat⟩),
 (73,⟨[Y8,I,eI,I],D6,.dat⟩),
 (74,⟨[D6,I],Td,.dat⟩),
 (80,⟨[I,I],.bool,.dat⟩),
 (81,⟨[Y8,I,I,eI,I],zJ,.dat⟩),
 (82,⟨[Y8,D5,I,I],(.tup [I,I]),.dat⟩),
 (83,⟨[eI],I,.dat⟩),
 (84,⟨[Y8,I,I,oa],(.tup [zJ,(.slice jR)]),.dat⟩),
 (85,⟨[Y5,I,(.slice jR)],(.tup [jR,I]),.dat⟩),
 (100,⟨[(.slice I)],(.slice I),(.row 3 I)⟩),
 (101,⟨[pK],.bool,.dat⟩),
 (102,⟨[(.slice .str),I],I,.dat⟩),
 (103,⟨[(.slice I),I,I],.bool,.dat⟩),
 (104,⟨[I,I],.bool,.dat⟩),
 (105,⟨[D5],.bool,.dat⟩),
 (106,⟨[Y8,I,I],(.tup [I,I]),.dat⟩),
 (107,⟨[Y8,eI,I],.bool,.dat⟩),
 (108,⟨[Y8,eI,Y9],.bool,.dat⟩),
 (109,⟨[(.slice I)],I,.dat⟩),
 (110,⟨[I,I],I,.dat⟩),
 (113,⟨[eI,I,I],.bool,.dat⟩),
 (114,⟨[(.slice I)],I,.dat⟩),
 (115,⟨[D6,I,I],I,.dat⟩),
 (116,⟨[D6,I],(.tup [I,I]),.dat⟩),
 (120,⟨[Y8,I],.bool,.dat⟩),
 (121,⟨[I],.bool,.dat⟩),
 (122,⟨[Y6],.bool,.dat⟩),
 (123,⟨[Y8,D5,I],(.tup [I,I]),.dat⟩),
 (124,⟨[Y8,I,I],(.tup [I,I]),.dat⟩),
 (125,⟨[(.slice I)],I,.dat⟩),
 (126,⟨[Y8,oa],(.tup [oa,(.slice jR)]),.dat⟩),
 (127,⟨[I],(.tup [I,.bool]),.dat⟩),
 (128,⟨[Y8,I,oa],(.nsl I),.dat⟩),
 (129,⟨[Y8,I,I,(.slice I)],(.tup [(.slice I),I]),.dat⟩),
 (130,⟨[Y5,I],(.tup [pK,I]),.dat⟩),
 (131,⟨[pK,(.slice jR)],jR,.dat⟩),
 (134,⟨[(.int .u64),(.int .u64)],(.tup [(.int .u64),(.int .u64)]),.dat⟩),
 (159,⟨[pK,I,I],I,.dat⟩),
 (160,⟨[.str],.bool,.dat⟩),
 (161,⟨[(.slice .str),.str],.bool,.dat⟩),
 (162,⟨[eI,I,(.slice I)],.bool,.dat⟩),
 (163,⟨[eI,I,I],.bool,.dat⟩),
 (164,⟨[I],.bool,.dat⟩),
 (176,⟨[eI,I],(.map I .bool),.dat⟩),
 (177,⟨[eI,I],I,.dat⟩),
 (180,⟨[I,Y6],(.tup [I,I]),.dat⟩),
 (181,⟨[Y8,I],I,.dat⟩),
 (182,⟨[Y8,I,I],I,.dat⟩),
 (183,⟨[Y0,I],(.tup [I,I]),.dat⟩),
 (184,⟨[Y8,oa],(.slice jR),.dat⟩),
 (185,⟨[(.slice I),I],.bool,.dat⟩),
 (186,⟨[Y8,I,I,(.slice I)],.bool,.dat⟩),
 (187,⟨[Y8,I,I,(.slice I)],(.tup [I,.bool]),.dat⟩),
 (188,⟨[(.slice Y4),(.fn [Y4] .bool)],I,.dat⟩),
 (189,⟨[Y4,(.ref I)],.bool,.dat⟩),
 (190,⟨[pK],(.tup [I,I]),.dat⟩),
 (191,⟨[Te,pK],(.tup [jR,(.slice I)]),.dat⟩),
 (208,⟨[(.slice .str),.str],I,.dat⟩),
 (214,⟨[I,I],(.tup [I,I]),.dat⟩),
 (215,⟨[I],.bool,.dat⟩),
 (216,⟨[Y0,I,I],(.fn [(.fn [I] .bool)] (.tup [])),.dat⟩),
 (217,⟨[(.slice pI),(.fn [pI] .bool)],.bool,.dat⟩),
 (218,⟨[pI,(.ref oa)],.bool,.dat⟩),
 (219,⟨[.bool],jR,.dat⟩),
 (220,⟨[eI,I,I],jR,.dat⟩),
 (221,⟨[(.slice I),I],I,.dat⟩),
 (222,⟨[(.slice I),(.fn [I] .bool)],.bool,.dat⟩),
 (223,⟨[I,(.ref I)],.bool,.dat⟩),
 (224,⟨[pK,I],I,.dat⟩),
 (225,⟨[pK],(.tup [I,I]),.dat⟩),
 (226,⟨[Te,I],jR,.dat⟩),
 (227,⟨[I,(.slice jR)],jR,.dat⟩),
 (228,⟨[(.slice (.slice I))],(.slice I),.dat⟩),
 (241,⟨[I],(.tup [I,I,I]),.dat⟩),
 (242,⟨[I,I,I],(.tup [I,I]),.dat⟩),
 (243,⟨[I,I],I,.dat⟩),
 (245,⟨[Y0,I],.bool,.dat⟩),
 (246,⟨[(.slice pI),(.fn [pI] .bool)],I,.dat⟩),
 (247,⟨[(.slice I),(.fn [I] .bool)],I,.dat⟩),
 (248,⟨[pK],(.tup [I,I]),.dat⟩),
 (249,⟨[I],Y21,.dat⟩),
 (250,⟨[I],(.tup [I,.bool]),.dat⟩),
 (251,⟨[.bool],jR,.dat⟩),
 (252,⟨[I],I,.dat⟩),
 (253,⟨[I,I,I],I,.dat⟩),
 (254,⟨[.nils .bool,I],(.slice I),(.row 3 I)⟩),
 (268,⟨[I,I,I],I,.dat⟩),
 (269,⟨[I,I],I,.dat⟩)]
def Kr:List (Nat×CSig):=[
 (54,⟨[],[I],.bool⟩),
 (55,⟨[(.ref Y8)],[I],.bool⟩),
 (58,⟨[(.ref Y8)],[I],.bool⟩),
 (59,⟨[(.ref Y8)],[I],.bool⟩),
 (189,⟨[(.ref I)],[Y4],.bool⟩),
 (218,⟨[(.ref oa)],[pI],.bool⟩),
 (223,⟨[(.ref I)],[I],.bool⟩),
 (244,⟨[(.ref I),(.ref I),(.ref Y0)],[(.fn [I] .bool)],(.tup [])⟩)]
def ctx:Ctx:={P:=Tryz.prog,cap:=bu Kr,sig:=bu sT,amk:=fun _=>none,glob:=Qd 0 [6,7,10,12,13,14,15,16,20,21]}
abbrev IT (i:Nat):Sig:=(bu sT i).getD default
def cF (a b:List Nat)(f:Func)(i:Nat)(l:List Nat):Option PC:=kl {ctx with fr:=a,nh:=b} f (IT i) l
theorem ba {o:Option PC}{t:PT}{l:List (Shp×PT)}(h:o.map told=some (t,l)):tree (ae o)=t:=bN (F:=fun _=>(t,l)) h
theorem av (o:Option PC){p:PT×List (Shp×PT)}(h:o.map told=some p):o=some (ae o):=apn (F:=fun _=>p) h
theorem aB (l a b:List Nat){f:Nat}{fn:Func}{c:PC}(h0:ctx.P.funcs[f]?=some fn)(h1:ctx.sig f=some (IT f))(h2:kl {ctx with fr:=a,nh:=b} fn (IT f) l=some c):∃fn s ids fr nh,ctx.P.funcs[f]?=some fn∧ctx.sig f=some s∧kl {ctx with fr:=fr,nh:=nh} fn s ids=some c:=⟨fn,IT f,l,a,b,h0,h1,h2⟩
abbrev vj:PE:=.ai .quo .i64 (bH (aG (bH (.ai .rem .i64 (aG r0 (pi 730425)) (pi 146097)) (.ai .quo .i64 (.ai .rem .i64 (aG r0 (pi 730425)) (pi 146097)) (pi 1460))) (.ai .quo .i64 (.ai .rem .i64 (aG r0 (pi 730425)) (pi 146097)) (pi 36524))) (.ai .quo .i64 (.ai .rem .i64 (aG r0 (pi 730425)) (pi 146097)) (pi 146096))) (pi 365)
abbrev oZ:PE:=.con (.agg [(.int 0),(.int 0),(.int 0),(.int 0),(.int 0),(.int 0),(.int 0),(.int 0),(.int 0),(.int 0),(.int 0),(.int 0),(.int 0),(.int 0),(.int 0),(.list []),(.list []),(.list []),(.list [])])
abbrev fh:PE:=.con (.agg [(.bool false),(.int 0)])
abbrev HQ:PE:=.ai .quo .i64 (aG (.ai .mul .i64 (pi 5) (bH (.ai .rem .i64 (aG r0 (pi 730425)) (pi 146097)) (bH (aG (.ai .mul .i64 (pi 365) vj) (.ai .quo .i64 vj (pi 4))) (.ai .quo .i64 vj (pi 100))))) (pi 2)) (pi 153)
abbrev pf:PE:=.deref (.con (.ref (.agg [(.int 6),(.int 7),(.int 10),(.int 12),(.int 13),(.int 14),(.int 15),(.int 16),(.int 20),(.int 21)])))
abbrev jH:PE:=.setc z3 0 (.mk [(pc (.mk [r0]) 5),(pc (.mk [r0]) 6),(pc (.mk [r0]) 7)])
abbrev HT:PE:=.put (.put (.put (.put (.con (.map [])) (pi 7) (aO (.ai .and .i64 (pc o6 13) (pi 1)) (pi 0))) (pi 8) (peq (pc o6 2) (pi (-1)))) (pi 9) (aO (.ai .and .i64 (pc o6 13) (pi 4)) (pi 0))) (pi 10) (aO (.ai .and .i64 (pc o6 13) (pi 2)) (pi 0))
abbrev OT:PE:=.mk [(pc (.mk [r0]) 10),(pc (.mk [r0]) 11),(pc (.mk [r0]) 12),(pc (.mk [r0]) 13),(pc (.mk [r0]) 14),(pc (.mk [r0]) 15),(pc (.mk [r0]) 16),(pc (.mk [r0]) 17),(pc (.mk [r0]) 18),(pc (.mk [r0]) 19),(pc (.mk [r0]) 20),(pc (.mk [r0]) 21),(pc (.mk [r0]) 22),(pc (.mk [r0]) 23),(pc (.mk [r0]) 24),(pc (.mk [r0]) 25),(pc (.mk [r0]) 26),(pc (.mk [r0]) 27),(pc (.mk [r0]) 28)]
abbrev sI:PE:=.setc (.con (.agg [(.int 0),(.int 0),(.int 0),(.int 0),(.int 0),(.int 0),(.bool false)])) 0 (pn mw jJ)
abbrev kH:PE:=.con (.agg [(.int 0),(.int 0),(.list [])])
abbrev OI:PE:=.con (.agg [(.list []),(.list []),(.list []),(.list []),(.list []),(.list []),(.list []),(.list []),(.int 0),(.int 0),(.int 0),(.int 0),(.int 0),(.int 0),(.int 0),(.int 0),(.int 0),(.int 0),(.int 0),(.int 0),(.int 0),(.int 0),(.int 0),(.int 0),(.int 0),(.list []),(.list []),(.list []),(.list []),(.int 0),(.int 0)])
abbrev cl:PE:=pi 4294967296
abbrev j8:PE:=.con (.agg [(.list []),(.int 0)])
abbrev mm:PE:=.setc z9 0 (pn (pc (.mk [r1]) 15) r2)
abbrev yP:PE:=.mk [(pc (.setc fh 0 da) 0),(pc (.setc fh 0 da) 1)]
abbrev yQ:PE:=.setc z9 0 (pn (pc (.mk [r2]) 15) (pc (.mk [r2]) 19))
abbrev iJ:PE:=.setc (.mk [r3]) 18 pL
abbrev OJ:PE:=.put (.put (.put (.con (.map [])) (pi 0) (pc o6 3)) (pi 1) (pc o6 14)) (pi 2) (pc o6 5)
abbrev HN:PE:=.pick (.pick (peq (.tget nH 0) (pi 0)) (pc bV 0) pF) (.setc bV 1 (.mn (.mx (pc bV 1) (pi 0)) (pi 20000))) bV
abbrev Cy:PE:=.mk [(pc (.setc o4 0 (.mk [pF,(pi 0)])) 0),(pc (.setc o4 0 (.mk [pF,(pi 0)])) 1)]
abbrev yR:PE:=.con (.agg [(.bool false),(.int 0),(.int 0),(.list []),(.int 0)])
abbrev HO:PE:=.con (.agg [(.int 0),(.int 0),(.bool false)])
abbrev Zr:PE:=.ai .add .u64 (.ai .mul .u64 (.ai .shr .u64 r0 (.con (.v (.int .u64 32)))) (.ai .and .u64 r1 (.con (.v (.int .u64 4294967295))))) (.ai .shr .u64 (.ai .mul .u64 (.ai .and .u64 r0 (.con (.v (.int .u64 4294967295)))) (.ai .and .u64 r1 (.con (.v (.int .u64 4294967295))))) (.con (.v (.int .u64 32))))
abbrev vk:PE:=.setc (.setc bV 3 (.tget CE 0)) 4 (.tget CE 1)
abbrev yS:PE:=.setc (.con (.agg [(.int 0),(.list [])])) 0 (pn bC bS)
abbrev HP:PE:=aG (bH (aG (.ai .mul .i64 (pi 12) (.tget dE 0)) (.tget dE 1)) (pi 1)) r1
abbrev Zs:PE:=.con (.agg [(.int 0),(.int 0),(.int 0),(.int 0),(.int 0),(.int 0),(.int 0),(.int 0),(.int 0),(.int 0),(.int 0),(.int 0),(.int 0),(.int 0),(.int 0),(.list []),(.list []),(.list []),(.list []),(.int 0),(.int 0),(.int 0),(.int 0),(.int 0)])
abbrev vl:PE:=pc (.mk [r0]) 2
abbrev kI:PE:=aC 8 (.mk [r0])
abbrev OL:PE:=.mk [(pc (.setc o4 0 (.mk [(pi 0),(pi 0),pL])) 0),(pc (.setc o4 0 (.mk [(pi 0),(pi 0),pL])) 1),pL]
abbrev nC:PE:=pc (pn bx (pi 0)) 1
abbrev kJ:PE:=pc (.mk [r0]) 0
abbrev yT:PE:=.setc z3 0 (pn bS bD)
abbrev mq:PE:=pc (.mk [r0]) 15
abbrev Zt:PE:=.pick (.pick (peq (.tget dK 0) (.con (.v (.int .u64 0)))) (ah (.tget dK 1) (.con (.v (.int .u64 1099511627776)))) pF) (.conv .i64 (.tget dK 1)) (pi 1099511627776)
abbrev OM:PE:=aC 5 (.setc o8 0 (.mk [(pc bV 0),(pc bV 1),(pc bV 2),(.o 16394),(pc bV 4)]))
abbrev ON:PE:=.pick (peq (pc (pn bx bQ) 3) (pi 1)) (peq (pc (pn bx bQ) 2) (pn dK fi)) pF
abbrev mu:PE:=.llen (pc o3 2)
abbrev Zu:PE:=.pick (.pick (.pick (ah (pc yQ 2) (pi 0)) pT (bZ (pc yQ 2) (.llen (pc (.mk [r0]) 3)))) pT (ah r1 (pi 0))) pT (bZ r1 (.llen (pc (.mk [r0]) 4)))
abbrev OO:PE:=.put (.con (.map [])) (pi 7) (aO (.ai .and .i64 (pc o6 13) (pi 1)) (pi 0))
abbrev Cz:PE:=.setc z9 0 (pn (pc (.mk [r0]) 25) r1)
abbrev Zv:PE:=.app o2 (.lst [(pc (.setc (.con (.agg [(.v (.string ⟨#[]⟩)),(.int 0),(.int 0),(.list []),(.list []),(.list [])])) 0 (pn bS bD)) 0)])
abbrev nD:PE:=aG r8 (pi 1)
abbrev CA:PE:=bH (pi 2) (pc (pn o7 (pi 0)) 1)
abbrev HR:PE:=.setc kH 0 (.sub (pn (pc o2 3) dE) 1 3)
abbrev HS:PE:=.pick (ah r1 (pi 3)) (bH r0 (pi 1)) r0
abbrev Zw:PE:=.app o4 (.lst [(pc (.setc (.con (.agg [(.v (.string ⟨#[]⟩)),(.bool false),(.list []),(.list [])])) 0 (pn j9 qY)) 0)])
abbrev yU:PE:=.con (.v (.int .u64 32))
abbrev vm:PE:=pc (pn dk (pi 0)) 1
abbrev qQ:PE:=pc (.mk [r0]) 1
abbrev Zx:PE:=.put (.put (.put HT (pi 11) (aO OX OY)) (pi 12) cK) (pi 13) (aO (.ai .and .i64 (pc o8 8) (pi 1)) (pi 0))
abbrev nE:PE:=pn r1 (pi 1)
abbrev OP:PE:=.put (.put OJ (pi 3) (pc o6 12)) (pi 4) (pc o8 0)
abbrev Zy:PE:=.pick (bj (.llen (pc (pn (pc o1 1) r3) 4)) (pi 70)) pT (bj (.llen (pc (pn (pc o1 1) r3) 5)) (pi 210))
abbrev OQ:PE:=.con (.agg [(.v (.string ⟨#[]⟩)),(.int 0),(.int 0)])
abbrev nF:PE:=ah bD cK
abbrev nG:PE:=ah bS bz
abbrev CB:PE:=.setc HO 0 (pn dE jI)
abbrev Zz:PE:=.app o4 (.lst [(pc (.setc (.con (.agg [(.int 0),(.int 0),(.int 0),(.list [])])) 0 (pn da mw)) 0)])
abbrev sE:PE:=.llen (pc o4 2)
abbrev sF:PE:=.llen (pc o1 4)
abbrev sG:PE:=.llen (pc o1 1)
abbrev ZA:PE:=.an (.cb .eql (pc (pn r1 (pi 0)) 0) (pc yP 0)) (.an (peq (pc (pn r1 (pi 0)) 1) (pc yP 1)) pT)
abbrev ZB:PE:=.app (.o 69637) (.lst [(.mk [(pc (.setc z2 0 (pn pv nJ)) 0),(pc (.setc z2 0 (pn pv nJ)) 1)])])
abbrev vn:PE:=pc (pn bz bG) 1
abbrev OR:PE:=.setc o4 0 (.mk [(pc o9 0),(pc o9 1),(pc o9 2)])
abbrev OS:PE:=.setc (.setc o6 4 (.tget pq 0)) 5 (.tget pq 1)
abbrev ZC:PE:=.pick (.nt (.nt (.an (.an bD pT) (.nt pF)))) (.app (.o 1000) (.lst [(.tup [r5])])) (.o 1000)
abbrev vp:PE:=pi 1099511627776
abbrev ZD:PE:=.pick (bj (aG HQ (pi 3)) (pi 12)) (bH (aG HQ (pi 3)) (pi 12)) (aG HQ (pi 3))
abbrev pg:PE:=.llen vl
abbrev ZE:PE:=.setc o4 0 (.mk [(pc (.setc fh 0 (.tget fi 0)) 0),(pc (.setc fh 0 (.tget fi 0)) 1)])
abbrev CC:PE:=.setc z9 0 (pn ZW iK)
abbrev HU:PE:=.setc fh 0 (.mk [pT,(pi 1)])
abbrev HV:PE:=.setc fh 0 (.mk [pT,(pi 0)])
abbrev HW:PE:=bH (.llen (pc o3 3)) (pi 1)
abbrev vq:PE:=aG bD (pi 1)
abbrev ZF:PE:=.pick (.pick (peq (pc yT 0) r1) (bB (pc yT 1) r2) pF) (bB r2 (pc yT 2)) pF
abbrev vt:PE:=.mk [pF,(pi 0)]
abbrev CD:PE:=.con (.agg [(.int 0)])
abbrev ZG:PE:=aG vj (.ai .mul .i64 (pi 400) (.ai .quo .i64 (aG r0 (pi 730425)) (pi 146097)))
abbrev ph:PE:=pn bD bx
abbrev ZH:PE:=.con (.agg [(.int 0),(.int 0),(.int 0),(.int 0),(.int 0),(.int 0),(.bool false)])
abbrev yV:PE:=pc (.mk [r0]) 18
abbrev qT:PE:=pn jI da
abbrev qU:PE:=pn bC bS
abbrev sH:PE:=ah bz bC
abbrev yW:PE:=pc (.mk [r0]) 5
abbrev yX:PE:=aG bS (pi 1)
abbrev yY:PE:=aG bz (pi 1)
abbrev OU:PE:=.pick (bZ r0 (pi 0)) (ah r0 r1) pF
abbrev yZ:PE:=.llen (pc o1 3)
abbrev ZI:PE:=.setc o4 0 (.mk [(pc (.setc fh 0 H4) 0),(pc (.setc fh 0 H4) 1)])
abbrev ZJ:PE:=.setc o4 0 (.mk [(pc (.setc fh 0 gT) 0),(pc (.setc fh 0 gT) 1)])
abbrev ZK:PE:=.pick (bZ bD (pi 0)) (peq (pn lK bD) (aG (bH r1 bC) bD)) pF
abbrev ZL:PE:=.setc j8 0 (.mk [(.lst [(pi 1),(pi (-1)),(pi (-1))]),(pi (-1))])
abbrev ZM:PE:=.pick (aO (pc o3 22) (pi (-1))) (bH (pc o8 6) (pc o3 22)) (pi 0)
abbrev OV:PE:=.ai .rem .i64 (pn r8 bC) (pi 100)
abbrev ZN:PE:=.app (.o 77829) (.lst [(.mk [(pc yF 0),(pc yF 1),(pc yF 2)])])
end Rm
set_option linter.unusedSimpArgs false
namespace Rm
open Go Cx
def uO (x:Int):List Int→List Int
 |[]=>[x]
 |y::l=>if x≤y then x::y::l else y::uO x l
def eO:List Int→List Int
 |[]=>[]
 |x::l=>uO x (eO l)
theorem ML (x:Int):∀l,(uO x l).Perm (x::l)
 |[]=>.refl _
 |y::l=>by
  unfold uO;split
  ·exact .refl _
  ·exact((ML x l).cons y).trans (.swap x y l)
theorem B9:∀l,(eO l).Perm l
 |[]=>.refl _
 |x::l=>(ML x _).trans ((B9 l).cons x)
theorem Wo (x:Int):∀{l:List Int},l.Pairwise (·≤·)→(uO x l).Pairwise (·≤·)
 |[],_=>by simp[uO]
 |y::l,h=>by
  have h':=D0.1 h;unfold uO;split
  ·rename_i MI;refine D0.2 ⟨fun z hz=>?_,h⟩;rcases cG.1 hz with rfl|hz
   ·exact MI
   ·exact Int.le_trans MI (h'.1 z hz)
  ·rename_i MI;refine D0.2 ⟨fun z hz=>?_,Wo x h'.2⟩;rcases cG.1 ((ML x l).mem_iff.1 hz) with rfl|hz
   ·omega
   ·exact h'.1 z hz
theorem GW:∀l,(eO l).Pairwise (·≤·)
 |[]=>.nil
 |x::l=>Wo x (GW l)
theorem ajH (l:List Int):(l.mergeSort fun x y=>decide (x≤y))=eO l:=by
 have h1:(l.mergeSort fun x y=>decide (x≤y)).Pairwise (fun x y=>decide (x≤y)=true):=List.pairwise_mergeSort (fun a b c h1 h2=>by simp at*;omega) (fun a b=>by simp;omega) l;refine List.Perm.eq_of_pairwise (le:=(·≤·)) (fun a b _ _ h1 h2=>by omega) (h1.imp fun h=>by simpa using h) (GW l) ((List.mergeSort_perm l _).trans (B9 l).symm)
theorem MM (l:List Int):(eO l).length=l.length:=(B9 l).length_eq
theorem ajI {l:List Int}{x:Int}:x∈eO l↔x∈l:=(B9 l).mem_iff
def m3 (l:List Int)(k:Nat):List Int:=((List.range k).filter fun j=>decide (j=0∨l.getD j 0≠l.getD (j-1) 0)).map fun j=>l.getD j 0
def iS (l:List Int):List Int:=m3 l l.length
theorem adU (l:List Int)(k:Nat):m3 l (k+1)=m3 l k++if k=0∨l.getD k 0≠l.getD (k-1) 0 then[l.getD k 0] else[]:=by
 unfold m3;rw[D1,DU,ki]
 congr 1
 have key:∀(p:Nat→Bool),List.filter p [k]=if p k then[k] else[]:=fun p=>by
  cases h:p k<;>simp[List.filter,h]
 rw[key];by_cases h:k=0∨l.getD k 0≠l.getD (k-1) 0
 ·rw[if_pos h,if_pos (decide_eq_true h)];rfl
 ·rw[if_neg h,if_neg (by simpa using h)];rfl
theorem KG (l:List Int)(hs:l.Pairwise (·≤·)):∀k,k≤l.length→(∀x,x∈m3 l k↔∃j,j<k∧l.getD j 0=x)∧(m3 l k).Pairwise (·<·)
 |0,_=>by simp[m3]
 |k+1,hk=>by
  obtain⟨h1,h2⟩:=KG l hs k (by omega)
  have hle:∀i j,i≤j→j<l.length→l.getD i 0≤l.getD j 0:=fun i j dz hj=>by
   have hi:i<l.length:=by omega
   rw[aI,aI,aZ hi,aZ hj];by_cases e:i=j
   ·subst e;exact Int.le_refl _
   ·exact abK.1 hs i j hi hj (by omega)
  rw[adU];by_cases hc:k=0∨l.getD k 0≠l.getD (k-1) 0
  ·rw[if_pos hc];refine⟨fun x=>?_,SZ.2 ⟨h2,by simp,fun a ha b hb=>?_⟩⟩
   ·rw[cS,h1,rk];constructor
    ·rintro(⟨j,hj,e⟩|e)
     ·exact⟨j,by omega,e⟩
     ·exact⟨k,by omega,e.symm⟩
    ·rintro⟨j,hj,e⟩;by_cases nj:j=k
     ·subst nj;exact .inr e.symm
     ·exact .inl ⟨j,by omega,e⟩
   ·rw[rk] at hb;subst hb;obtain⟨j,hj,rfl⟩:=(h1 a).1 ha;have a1:=hle j (k-1) (by omega) (by omega);have a2:=hle (k-1) k (by omega) (by omega);rcases hc with hc|hc<;>omega
  ·rw[if_neg hc,rf];refine⟨fun x=>?_,h2⟩;rw[h1];constructor
   ·rintro⟨j,hj,e⟩;exact⟨j,by omega,e⟩
   ·rintro⟨j,hj,e⟩;by_cases nj:j=k
    ·subst nj;exact⟨j-1,by omega,by rw[←e];omega⟩
    ·exact⟨j,by omega,e⟩
theorem adV {l:List Int}(hs:l.Pairwise (·≤·)){x:Int}:x∈iS l↔x∈l:=by
 rw[iS,(KG l hs l.length (aU _)).1,List.mem_iff_getElem];constructor
 ·rintro⟨j,hj,e⟩;exact⟨j,hj,by rw[←e,aI,aZ hj];rfl⟩
 ·rintro⟨j,hj,e⟩;exact⟨j,hj,by rw[←e,aI,aZ hj];rfl⟩
theorem adW {l:List Int}(hs:l.Pairwise (·≤·)):(iS l).Pairwise (·<·):=(KG l hs l.length (aU _)).2
theorem adT (l:List Int)(k:Nat):(m3 l k).length≤k:=by
 unfold m3;rw[dM];exact fW (nW _ _) (by simp)
end Rm
namespace Go.Proofs
open Go.Shelf
def Tryz.lays189_ren:Go.Shelf.Ren:=⟨fun|189=>68|125=>112|257=>111|128=>174|129=>175|294=>165|295=>166|296=>167|297=>168|298=>169|299=>170|216=>171|300=>172|301=>173|328=>209|329=>210|330=>211|331=>212|332=>213|215=>164|343=>240|n=>n,fun|28=>53|3=>3|46=>186|0=>0|51=>137|53=>52|4=>4|183=>226|182=>225|131=>200|5=>5|9=>9|218=>257|222=>261|228=>282|229=>188|n=>n,fun|n=>n⟩
theorem Tryz.lays189:Go.Proofs.Lays.n189 Tryz.prog Tryz.lays189_ren:={
 mixed:=by kernel_rfl
 f125:=Tryz.func112.trans (congrArg some (by kernel_rfl))
 f128:=Tryz.func174.trans (congrArg some (by kernel_rfl))
 f129:=Tryz.func175.trans (congrArg some (by kernel_rfl))
 f189:=Tryz.func68.trans (congrArg some (by kernel_rfl))
 f215:=Tryz.func164.trans (congrArg some (by kernel_rfl))
 f216:=Tryz.func171.trans (congrArg some (by kernel_rfl))
 f257:=Tryz.func111.trans (congrArg some (by kernel_rfl))
 f294:=Tryz.func165.trans (congrArg some (by kernel_rfl))
 f295:=Tryz.func166.trans (congrArg some (by kernel_rfl))
 f296:=Tryz.func167.trans (congrArg some (by kernel_rfl))
 f297:=Tryz.func168.trans (congrArg some (by kernel_rfl))
 f298:=Tryz.func169.trans (congrArg some (by kernel_rfl))
 f299:=Tryz.func170.trans (congrArg some (by kernel_rfl))
 f300:=Tryz.func172.trans (congrArg some (by kernel_rfl))
 f301:=Tryz.func173.trans (congrArg some (by kernel_rfl))
 f328:=Tryz.func209.trans (congrArg some (by kernel_rfl))
 f329:=Tryz.func210.trans (congrArg some (by kernel_rfl))
 f330:=Tryz.func211.trans (congrArg some (by kernel_rfl))
 f331:=Tryz.func212.trans (congrArg some (by kernel_rfl))
 f332:=Tryz.func213.trans (congrArg some (by kernel_rfl))
 f343:=Tryz.func240.trans (congrArg some (by kernel_rfl))
 t0:=Tryz.underlying0
 a0:=Tryz.isAgg0
 z0:=Tryz.sizeOf0
 v0:=Tryz.zeroValue0
 t3:=Tryz.underlying3
 a3:=Tryz.isAgg3
 z3:=Tryz.sizeOf3
 v3:=Tryz.zeroValue3
 t4:=Tryz.underlying4
 a4:=Tryz.isAgg4
 z4:=Tryz.sizeOf4
 v4:=Tryz.zeroValue4
 t5:=Tryz.underlying5
 a5:=Tryz.isAgg5
 z5:=Tryz.sizeOf5
 v5:=Tryz.zeroValue5
 t9:=Tryz.underlying9
 a9:=Tryz.isAgg9
 z9:=Tryz.sizeOf9
 v9:=Tryz.zeroValue9
 t28:=Tryz.underlying53
 a28:=Tryz.isAgg53
 z28:=Tryz.sizeOf53
 v28:=Tryz.zeroValue53
 t46:=Tryz.underlying186
 a46:=Tryz.isAgg186
 z46:=Tryz.sizeOf186
 v46:=Tryz.zeroValue186
 t51:=Tryz.underlying137
 a51:=Tryz.isAgg137
 z51:=Tryz.sizeOf137
 v51:=Tryz.zeroValue137
 t53:=Tryz.underlying52
 a53:=Tryz.isAgg52
 z53:=Tryz.sizeOf52
 v53:=Tryz.zeroValue52
 t131:=Tryz.underlying200
 a131:=Tryz.isAgg200
 z131:=Tryz.sizeOf200
 v131:=Tryz.zeroValue200
 t182:=Tryz.underlying225
 a182:=Tryz.isAgg225
 z182:=Tryz.sizeOf225
 v182:=Tryz.zeroValue225
 t183:=Tryz.underlying226
 a183:=Tryz.isAgg226
 z183:=Tryz.sizeOf226
 v183:=Tryz.zeroValue226
 t218:=Tryz.underlying257
 a218:=Tryz.isAgg257
 z218:=Tryz.sizeOf257
 v218:=Tryz.zeroValue257
 t222:=Tryz.underlying261
 a222:=Tryz.isAgg261
 z222:=Tryz.sizeOf261
 v222:=Tryz.zeroValue261
 t228:=Tryz.underlying282
 a228:=Tryz.isAgg282
 z228:=Tryz.sizeOf282
 v228:=Tryz.zeroValue282
 t229:=Tryz.underlying188
 a229:=Tryz.isAgg188
 z229:=Tryz.sizeOf188
 v229:=Tryz.zeroValue188}
open Go.Sort Go.RowKit in
theorem Tryz.slices_Sort_int (mX off cap:Nat)(zs:List Int)(w:World)(hH:Holds (Value.int .i64) w mX off zs.toArray)(Ba:mX<w.heap.size)(aL:zs.length<4611686018427387904):
 Calls Tryz.prog 68 #[.slice (some ⟨mX,off,none⟩) zs.length cap] w fun e w'=>
  e=.returned (.tuple #[])∧∃n os,w'=grow (putRow (Value.int .i64) (Sort.ahead w n) mX off (zs.mergeSort fun x y=>decide (x≤y)).toArray) os:=Any.slices_Sort_int Tryz.lays189 mX off cap zs w hH Ba aL
def Tryz.laysNm215_ren:Go.Shelf.Ren:=⟨fun|15=>100|n=>n,fun|22=>53|3=>3|4=>4|n=>n,fun|n=>n⟩
theorem Tryz.laysNm215:Go.Proofs.Lays2.n15 Tryz.prog Tryz.laysNm215_ren:={
 mixed:=by kernel_rfl
 f15:=Tryz.func100.trans (congrArg some (by kernel_rfl))
 t3:=Tryz.underlying3
 a3:=Tryz.isAgg3
 z3:=Tryz.sizeOf3
 v3:=Tryz.zeroValue3
 t4:=Tryz.underlying4
 a4:=Tryz.isAgg4
 z4:=Tryz.sizeOf4
 v4:=Tryz.zeroValue4
 t22:=Tryz.underlying53
 a22:=Tryz.isAgg53
 z22:=Tryz.sizeOf53
 v22:=Tryz.zeroValue53
 i3:=by kernel_rfl}
open Go.RowKit Go.Lib in
theorem Tryz.slices_Clone_int (b off n c:Nat)(zs:List Int)(w:World)(hz:n≤zs.length)(ahc:n*8≤140737488355328)(hc:∀j,j<zs.length→w.cell? ⟨b,off+j,none⟩=some (.int .i64 (zs.getD j 0))):
 Calls Tryz.prog 100 #[.slice (some ⟨b,off,none⟩) n c] w fun e w'=>∃v',e=.returned v'∧w'.ownsRow w.heap.size 3 1 v' n ((zs.take n).map (Value.int .i64))∧v'≠.slice none 0 0∧Below w.heap.size w w':=Any.slices_Clone_int Tryz.laysNm215 b off n c zs w hz ahc hc
open Go.RowKit Go.Lib in
theorem Tryz.slices_Clone_int_nil (n c:Nat)(w:World):
 Calls Tryz.prog 100 #[.slice none n c] w fun e w'=>e=.returned (.slice none 0 0)∧w'=w:=Any.slices_Clone_int_nil Tryz.laysNm215 n c w
open Go.RowKit Go.Lib in
theorem Tryz.slices_Clone_int_zero (a:Addr)(c:Nat)(w:World):
 Calls Tryz.prog 100 #[.slice (some a) 0 c] w fun e w'=>∃v',e=.returned v'∧w'.ownsRow w.heap.size 3 1 v' 0 []∧v'≠.slice none 0 0∧Below w.heap.size w w':=Any.slices_Clone_int_zero Tryz.laysNm215 a c w
def Tryz.laysNm220_ren:Go.Shelf.Ren:=⟨fun|20=>69|n=>n,fun|22=>53|3=>3|4=>4|0=>0|n=>n,fun|n=>n⟩
theorem Tryz.laysNm220:Go.Proofs.Lays2.n20 Tryz.prog Tryz.laysNm220_ren:={
 mixed:=by kernel_rfl
 f20:=Tryz.func69.trans (congrArg some (by kernel_rfl))
 t0:=Tryz.underlying0
 a0:=Tryz.isAgg0
 z0:=Tryz.sizeOf0
 v0:=Tryz.zeroValue0
 t3:=Tryz.underlying3
 a3:=Tryz.isAgg3
 z3:=Tryz.sizeOf3
 v3:=Tryz.zeroValue3
 t4:=Tryz.underlying4
 a4:=Tryz.isAgg4
 z4:=Tryz.sizeOf4
 v4:=Tryz.zeroValue4
 t22:=Tryz.underlying53
 a22:=Tryz.isAgg53
 z22:=Tryz.sizeOf53
 v22:=Tryz.zeroValue53
 i3:=by kernel_rfl}
open Go.RowKit Go.Lib Go.Sort in
theorem Tryz.slices_Compact_int (mX off cap:Nat)(zs:List Int)(w:World)(hH:Holds (Value.int .i64) w mX off zs.toArray)(aL:zs.length≤9223372036854775807)(ew:zs.length≤cap):
 Calls Tryz.prog 69 #[.slice (some ⟨mX,off,none⟩) zs.length cap] w fun e w'=>e=.returned (.slice (some ⟨mX,off,none⟩) (Lib.compact zs).length cap)∧∃q,w'=putRow (Value.int .i64) (Sort.ahead w q) mX off (Lib.compact zs++List.replicate (zs.length-(Lib.compact zs).length) 0).toArray:=Any.slices_Compact_int Tryz.laysNm220 mX off cap zs w hH aL ew
open Go.RowKit Go.Lib Go.Sort in
theorem Tryz.slices_Compact_int_empty (a:Option Addr)(cap:Nat)(w:World):
 Calls Tryz.prog 69 #[.slice a 0 cap] w fun e w'=>e=.returned (.slice a 0 cap)∧w'=w:=Any.slices_Compact_int_empty Tryz.laysNm220 a cap w
open Go.RowKit Go.Sort in
theorem Tryz.slices_Sort_int_none (p:Option Addr)(cap:Nat)(w:World):
 Calls Tryz.prog 68 #[.slice p 0 cap] w fun e w'=>e=.returned (.tuple #[])∧w'=w:=Any.slices_Sort_int_none Tryz.lays189 p cap w
end Go.Proofs
namespace Rm
open Go Go.Proofs Cx Go.RowKit
def aaZ (ds:List D):Option D:=
 match ds with
 |[_,.list xs]=>if 0<xs.length∧xs.length≤4294967296 then some (.tup [.tup [],ints (eO (xs.map D.i))]) else none
 |_=>none
def DC (ds:List D):Option D:=
 match ds with
 |[_,.list xs]=>if xs.length≤4294967296 then some (.tup [.tup [],ints (eO (xs.map D.i))]) else none
 |_=>none
theorem aoZ (ds:List D)(d:D)(h:aaZ ds=some d):pG ctx 68 [.obj 0 0] [(0,.row 3 (.int .i64))] (.tup []) ds d:=by
 unfold aaZ at h;split at h
 case h_2=>cases h
 rename_i d0 xs;split at h
 case isFalse=>cases h
 rename_i hlen;cases h;intro N σ own hv w args cx Mf ar hC bm hN aL bt fP h1 h2;obtain⟨v,rfl⟩:∃v,args=#[v]:=by
  match args,aL with
  |⟨[v]⟩,_=>exact⟨v,rfl⟩
 have nq:v=hv 0:=(h1 0).2 rfl;obtain⟨cells,fK,hx,lz,⟨vs,bF,Lv⟩,xR⟩:=h2 0;have hx:D.list xs=D.list fK:=hx;cases hx
 have qy:∀i (hi:i<xs.length),∃n,xs[i]=.int n∧vs i=.int .i64 n∧(IntKind.i64).min≤n∧n≤(IntKind.i64).max:=fun i hi=>by
  obtain⟨n,e1,e2,e3,e4⟩:=(bF i _ (aZ hi)).int_inv;exact⟨n,e2,e1,e3,e4⟩
 have il:cells=(xs.map D.i).map (Value.int .i64):=by
  apply DT;intro i;by_cases hi:i<xs.length
  ·obtain⟨n,e1,e2,_⟩:=qy i hi;have:=Lv i 0 (.int .i64 n) hi (by rw[e2];rfl);have e3:i*(Ty.int .i64).size+0=i:=by simp[Ty.size]
   rw[e3] at this;rw[this,cf,cf,aZ hi,e1];rfl
  ·have hl:cells.length=xs.length:=by have:=lz.1;simpa [Ty.size] using this
   rw[kU (by omega),kU (by simp;omega)]
 rcases lz.2 with⟨_,h0⟩|⟨g,cap,cur,e1,e2,e3,e4,e5,e6,e7⟩
 ·omega
 have cY:(Ty.int .i64).size=1:=rfl;rw[cY] at e6 e7;have hg:g<w.heap.size:=(ei.1 e3).1;have xY:own g=some 0:=xR g (by rw[e1];rfl);obtain⟨_,_,hgc,LH⟩:=bt g 0 xY;have j6:(xs.map D.i).length=xs.length:=by simp
 have hH:Go.Sort.Holds (Value.int .i64) w g 0 (xs.map D.i).toArray:=holds_of_blockI e3 (by rw[j6,←il,←e7];simp);have jW:=Tryz.slices_Sort_int g 0 cap (xs.map D.i) w hH hg (by omega);rw[nq,e1];rw[j6] at jW;refine jW.mono fun e w' hh=>?_;obtain⟨rfl,n,os,rfl⟩:=hh;rw[ajH];have ir:=grownBy_sortedI (w:=w) (g:=g) (n:=n) (os:=os) (eO (xs.map D.i)).toArray;have gz:∀k,k<w.heap.size→k≠g→(Go.Sort.grow (Go.Sort.putRow (Value.int .i64) (Go.Sort.ahead w n) g 0 (eO (xs.map D.i)).toArray) os).heap[k]?=w.heap[k]?:=fun k hk az=>ir.block k hk (fun e=>az (by cases e;rfl));have BR:=ownsRow_sortedI (w:=w) (base:=N) (n:=n) (os:=os) (ss:=xs.map D.i) (ts:=eO (xs.map D.i)) (MM _) e2 e3 (by rw[j6];exact e4) e5 (by omega);have ahj:∀k o x,σ.c k o=some x→k≠g:=fun k o x hx e=>by subst e;rw[hgc o] at hx;cases hx
 have aif:∀k x,σ.m k=some x→k≠g:=fun k x hx e=>by subst e;rw[LH] at hx;cases hx
 refine⟨.tuple #[],σ,fun k=>if own k=some 0 then some 0 else none,hv,.tup [],[ints (eO (xs.map D.i))],rfl,rfl,rfl,.refl σ,
  ⟨fun k o x hx=>by rw[World.cell?_of_block (gz k (World.block_lt_of_cell? w (a:=⟨k,o,none⟩) (ar.c k o x hx)) (ahj k o x hx))];exact ar.c k o x hx,fun k x hx=>(ar.m k x hx).keep (gz k (ar.m k x hx).lt (aif k x hx))⟩,
  ⟨ir.os,ir.tape,ir.output,ir.size,fun k hk=>by omega⟩,fun k hk hn=>gz k hk (fun e=>by subst e;rw[xY] at hn;cases hn),
  fun k o x hx=>⟨.inl hx,fun hc=>by rw[(fP k hc).2.2.1 o] at hx;cases hx⟩,fun k x hx=>⟨.inl hx,fun hc=>by rw[(fP k hc).2.2.2] at hx;cases hx⟩,fun k hx=>absurd hx (bm k),fun k j hk=>?_,fun t sh hs hd=>?_,fun j=>?_,
  .tup [] [] [] rfl rfl (fun i t hi=>by simp at hi)⟩
 ·by_cases ho:own k=some 0
  ·obtain⟨g1,g2,g3,g4⟩:=bt k 0 ho;exact⟨g1,pH g2 ir.size,g3,g4,fun _ hn=>by rw[ho] at hn;cases hn⟩
  ·simp[ho] at hk
 ·match t,hs with
  |0,hs=>simp at hs;subst hs;exact⟨aU _,fun _=>by simp[e1]⟩
  |t+1,hs=>simp at hs
 ·show bU ctx _ _ σ _ hv _ N j (bif Nat.beq 0 j then .row 3 (.int .i64) else .dead);cases hb:Nat.beq 0 j
  ·trivial
  ·have hj:=aw hb;subst hj;refine⟨(eO (xs.map D.i)).map (Value.int .i64),(eO (xs.map D.i)).map D.int,rfl,?_,⟨fun i=>.int .i64 ((eO (xs.map D.i)).getD i 0),fun i x hx=>?_,fun i j u hi hj=>?_⟩,fun k hk=>?_⟩
   ·rw[e1,cY];have e8:((eO (xs.map D.i)).map D.int).length=xs.length:=by rw[dM,MM,j6]
    rw[e8];rw[j6] at BR;exact BR
   ·rw[cf,ax] at hx;obtain⟨m,hm,rfl⟩:=hx;have e9:(eO (xs.map D.i)).getD i 0=m:=by rw[aI,hm];rfl
    show Rep ctx.cap σ (.int .i64) (.int .i64 ((eO (xs.map D.i)).getD i 0)) _;rw[e9];have cO:m∈xs.map D.i:=(B9 _).mem_iff.1 (jm hm);obtain⟨y,hy,rfl⟩:=cX.1 cO;obtain⟨q,hq,rfl⟩:=eZ hy;obtain⟨n',f1,f2,f3,f4⟩:=qy q hq;rw[f1];exact .int .i64 n' f3 f4
   ·have LM:j=0:=by
     have:=(ei.1 hj).1;simp[Value.cells] at this;omega
    subst LM;simp[Value.cells] at hj;subst hj;have dH:i<(eO (xs.map D.i)).length:=by simpa using hi
    simp[Ty.size,aZ dH,aI]
   ·rw[e1] at hk;simp[Value.ownBlock] at hk;subst hk;simp[xY]
theorem aoY (ds:List D)(d:D)(h:DC ds=some d):eH ctx 68 [.obj 0 0] [(0,.row 3 (.int .i64))] (.tup []) ds d:=by
 refine eH.of (by simp) ?_;by_cases h0:∃d0,ds=[d0,.list []]
 case neg=>
  refine aoZ ds d ?_;unfold DC at h;split at h
  case h_2=>cases h
  rename_i d0 xs;split at h
  case isFalse=>cases h
  rename_i hlen;have GK:0<xs.length:=by
   cases xs with
   |nil=>exact absurd ⟨_,rfl⟩ h0
   |cons x xs=>simp
  show(if 0<xs.length∧xs.length≤4294967296 then some (D.tup [.tup [],ints (eO (xs.map D.i))]) else none)=some d;rw[if_pos ⟨GK,hlen⟩];exact h
 obtain⟨d0,rfl⟩:=h0;obtain rfl:D.tup [.tup [],.list []]=d:=by simpa [DC,eO,ints] using h
 intro N σ own hv w args cx Mf ar hC bm hN aL bt fP h1 h2;obtain⟨v,rfl⟩:∃v,args=#[v]:=by
  match args,aL with
  |⟨[v]⟩,_=>exact⟨v,rfl⟩
 have nq:v=hv 0:=(h1 0).2 rfl;obtain⟨cells,fK,hx,lz,fe,xR⟩:=h2 0;have hx:D.list []=D.list fK:=hx;cases hx;obtain⟨p,cap,e1⟩:∃p cap,hv 0=.slice p 0 cap:=by
  rcases lz.2 with⟨e,_⟩|⟨g,cap,cur,e,_⟩
  ·exact⟨_,_,e⟩
  ·exact⟨_,_,e⟩
 rw[nq,e1];refine(Tryz.slices_Sort_int_none p cap w).mono fun e w' hh=>?_;obtain⟨rfl,rfl⟩:=hh
 refine⟨.tuple #[],σ,own,hv,.tup [],[.list []],rfl,rfl,rfl,.refl σ,ar,.refl _ _,fun k hk _=>rfl,
  fun k o x hx=>⟨.inl hx,fun hc=>by rw[(fP k hc).2.2.1 o] at hx;cases hx⟩,fun k x hx=>⟨.inl hx,fun hc=>by rw[(fP k hc).2.2.2] at hx;cases hx⟩,fun k hx=>absurd hx (bm k),
  fun k j hk=>by obtain⟨g1,g2,g3,g4⟩:=bt k j hk;exact⟨g1,g2,g3,g4,fun _ hn=>by rw[hk] at hn;cases hn⟩,fun t sh hs hd=>?_,fun j=>?_,.tup [] [] [] rfl rfl (fun i t hi=>by simp at hi)⟩
 ·match t,hs with
  |0,hs=>simp at hs;subst hs;exact⟨aU _,fun _=>by simp[e1]⟩
  |t+1,hs=>simp at hs
 ·exact h2 j
def Fz (ds:List D):Option D:=
 match ds with
 |[.list xs]=>if xs.length≤4294967296 then some (ints (iS (xs.map D.i))) else none
 |_=>none
theorem adE (l:List Int):Go.Lib.compact l=iS l:=by
 have e:∀j,l.toArray[j]! =l.getD j 0:=fun j=>by simp[aI,getElem!_def];cases l[j]?<;>rfl
 unfold Go.Lib.compact Go.Lib.compactUpTo iS m3 Go.Lib.keeps;simp only[e]
theorem ajJ {cap:Nat→Option CSig}{σ:Im}{cells:List Value}{xs:List D}(hl:cells.length=xs.length*1)(h:dL cap σ (.int .i64) cells xs):cells=(xs.map D.i).map (Value.int .i64)∧∀x,x∈xs.map D.i→(IntKind.i64).min≤x∧x≤(IntKind.i64).max:=by
 obtain⟨vs,bF,Lv⟩:=h
 have qy:∀i (hi:i<xs.length),∃n,xs[i]=.int n∧vs i=.int .i64 n∧(IntKind.i64).min≤n∧n≤(IntKind.i64).max:=fun i hi=>by
  obtain⟨n,e1,e2,e3,e4⟩:=(bF i _ (aZ hi)).int_inv;exact⟨n,e2,e1,e3,e4⟩
 constructor
 ·apply DT;intro i;by_cases hi:i<xs.length
  ·obtain⟨n,e1,e2,_⟩:=qy i hi;have:=Lv i 0 (.int .i64 n) hi (by rw[e2];rfl);have e3:i*(Ty.int .i64).size+0=i:=by simp[Ty.size]
   rw[e3] at this;rw[this,cf,cf,aZ hi,e1];rfl
  ·rw[kU (by omega),kU (by simp;omega)]
 ·intro x hx;obtain⟨y,hy,rfl⟩:=cX.1 hx;obtain⟨q,hq,rfl⟩:=eZ hy;obtain⟨n,f1,f2,f3,f4⟩:=qy q hq;rw[f1];exact⟨f3,f4⟩
theorem Wq {cap:Nat→Option CSig}{σ:Im}{l:List Int}(h:∀x,x∈l→(IntKind.i64).min≤x∧x≤(IntKind.i64).max):dL cap σ (.int .i64) (l.map (Value.int .i64)) (l.map D.int):=by
 refine⟨fun i=>.int .i64 (l.getD i 0),fun i x hx=>?_,fun i j u hi hj=>?_⟩
 ·rw[cf,ax] at hx;obtain⟨m,hm,rfl⟩:=hx;have e9:l.getD i 0=m:=by rw[aI,hm];rfl
  show Rep cap σ (.int .i64) (.int .i64 (l.getD i 0)) _;rw[e9];have:=h m (jm hm);exact .int .i64 m this.1 this.2
 ·have LM:j=0:=by
   have:=(ei.1 hj).1;simp[Value.cells] at this;omega
  subst LM;simp[Value.cells] at hj;subst hj;have dH:i<l.length:=by simpa using hi
  simp[Ty.size,aZ dH,aI]
theorem adX (l:List Int):∀x,x∈iS l→x∈l:=by
 intro x hx;unfold iS m3 at hx;obtain⟨j,hj,rfl⟩:=cX.1 hx;have af:j<l.length:=fp.1 (fa.1 hj).1;rw[aI,aZ af];exact cr af
theorem adF (ds:List D)(d:D)(h:Fz ds=some d):eH ctx 69 [.obj 0 0] [(0,.row 3 (.int .i64)),(1,.tr)] (.slice (.int .i64)) ds d:=by
 unfold Fz at h;split at h
 case h_2=>cases h
 rename_i gW;split at h
 case isFalse=>cases h
 rename_i hlen;cases h;show v8 ctx 69 3 (.int .i64) [] [.list gW] _;intro N σ w v args xs cells ds' qs ar hC hN lz fe Ba ha;cases qs;obtain rfl:args=[]:=SV.1 ha.1;have kr:cells.length=gW.length*1:=lz.1;obtain⟨aV,br⟩:=ajJ kr fe;have cY:(Ty.int .i64).size=1:=rfl;rcases lz.2 with⟨e1,h0⟩|⟨g,cap,cur,e1,e2,e3,e4,e5,e6,e7⟩
 ·obtain rfl:gW=[]:=SV.1 h0;subst e1;refine(Tryz.slices_Compact_int_empty none 0 w).mono fun x w' hh=>?_;obtain⟨rfl,rfl⟩:=hh;exact⟨_,[],[],rfl,rfl,.refl _ _,fun _ _ _=>rfl,World.ownsRow_nil _ _ _ _,⟨fun _=>undef,by simp,by simp⟩,fun k hk=>by cases hk⟩
 rw[cY] at e6 e7;subst e1;have j6:(gW.map D.i).length=gW.length:=by simp
 have hg:g<w.heap.size:=(ei.1 e3).1;have hH:Go.Sort.Holds (Value.int .i64) w g 0 (gW.map D.i).toArray:=holds_of_blockI e3 (by rw[j6,←aV,←e7];simp);have jW:=Tryz.slices_Compact_int g 0 cap (gW.map D.i) w hH (by rw[j6];omega) (by rw[j6];exact e4);rw[j6,adE] at jW;refine jW.mono fun x w' hh=>?_;obtain⟨rfl,n,rfl⟩:=hh;have Bf:(iS (gW.map D.i)).length≤gW.length:=fW (adT (gW.map D.i) (gW.map D.i).length) (by rw[j6];exact aU _);generalize uI:iS (gW.map D.i)++List.replicate (gW.length-(iS (gW.map D.i)).length) 0=ts;have htl:ts.length=(gW.map D.i).length:=by rw[←uI];simp;omega
 have ir:=grownBy_sortedI (w:=w) (g:=g) (n:=n) (os:=#[]) ts.toArray;have BR:=ownsRow_sortedI (w:=w) (base:=N) (n:=n) (os:=#[]) (ss:=gW.map D.i) (ts:=ts) htl e2 e3 (by rw[j6];exact e4) e5 (by omega);have gf:∀W:World,Go.Sort.grow W #[]=W:=fun W=>by simp[Go.Sort.grow]
 rw[gf] at ir BR;refine⟨_,(iS (gW.map D.i)).map D.int,(iS (gW.map D.i)).map (Value.int .i64),rfl,rfl,⟨ir.os,ir.tape,ir.output,ir.size,fun k hk=>ir.block k (by omega) (fun e=>by cases e;omega)⟩,fun k hk az=>ir.block k hk (fun e=>az (by cases e;rfl)),?_,Wq fun x hx=>br x (adX _ x hx),fun k hk=>?_⟩
 ·rw[cY];refine⟨by simp,?_⟩;rcases BR.2 with⟨f1,_⟩|⟨g',au2,adM,f1,f2,f3,f4,f5,f6,f7⟩
  ·cases f1
  ·cases f1;refine .inr ⟨g,cap,adM,by simp,f2,f3,by simp;omega,f5,f6,?_⟩;have:=congrArg (List.take (iS (gW.map D.i)).length) f7;rw[List.take_take,j6,Nat.mul_one,mO Bf,←uI,ki,List.take_left' (by simp)] at this;rw[dM,Nat.mul_one];exact this
 ·have bL:g=k:=by simpa [Value.ownBlock] using hk
  subst bL;exact⟨.inl (by simp[Value.ownBlock]),pH hg ir.size⟩
def Fv (ds:List D):Option D:=
 match ds with
 |[.list xs]=>if xs.length≤4294967296 then some (.list xs) else none
 |_=>none
theorem adu (ds:List D)(d:D)(h:Fv ds=some d):∃s,ctx.sig 100=some s∧jP ctx 100 s ds d:=by
 refine⟨_,rfl,?_⟩;unfold Fv at h;split at h
 case h_2=>cases h
 rename_i xs;split at h
 case isFalse=>cases h
 rename_i hlen;cases h;intro σ w args ar hC ha;obtain⟨a1,a2,a3⟩:=ha;have Vd:=a3 0 _ rfl;obtain⟨v,rfl⟩:∃v,args=#[v]:=by
  have:args.size=1:=by simpa using a1
  match args,this with
  |⟨[v]⟩,_=>exact⟨v,rfl⟩
 simp only[rh] at Vd;have fin:∀(v':Value) (w':World) (l:List Int),l.map D.int=xs→(∀x,x∈l→(IntKind.i64).min≤x∧x≤(IntKind.i64).max)→w'.ownsRow w.heap.size 3 1 v' l.length (l.map (Value.int .i64))→Below w.heap.size w w'→
  ∃v σ',Ending.returned v'=Ending.returned v∧σ.le σ'∧σ'.ok w'∧Below w.heap.size w w'∧(∀k o x,σ'.c k o=some x→σ.c k o=some x∨w.heap.size≤k)∧(∀k x,σ'.m k=some x→σ.m k=some x∨w.heap.size≤k)∧mR ctx ⟨[.slice (.int .i64)],.slice (.int .i64),.row 3 (.int .i64)⟩ σ' w w' v (.list xs):=by
  intro v' w' l hl hb bt rI;subst hl;refine⟨v',σ,rfl,.refl σ,ar.below rI,rI,fun _ _ _ h=>.inl h,fun _ _ h=>.inl h,?_⟩;refine⟨_,l.map D.int,rfl,by rw[dM];exact bt,Wq hb,fun k hk=>?_⟩;have bL:=(bt.lt k hk).1;refine⟨fun o=>?_,?_⟩
  ·cases hc:σ.c k o with
   |none=>rfl
   |some u=>have:=World.block_lt_of_cell? w (a:=⟨k,o,none⟩) (ar.c _ _ _ hc);simp at this;omega
  ·cases hc:σ.m k with
   |none=>rfl
   |some u=>have:=(ar.m k u hc).lt;omega
 obtain⟨fK,hx,rJ⟩:=Rep.slice_inv Vd;cases hx;rcases rJ with⟨⟨p,hv⟩,rfl⟩|⟨k,o,c,hv,h1,h2,vs,h3,h4⟩
 ·have hv:v=.slice p 0 0:=hv;subst hv;cases p with
  |none=>
   refine(Tryz.slices_Clone_int_nil 0 0 w).mono fun e w' hh=>?_;obtain⟨rfl,rfl⟩:=hh;exact fin _ _ [] rfl (by simp) (World.ownsRow_nil _ _ _ _) (.refl _ _)
  |some a=>
   refine(Tryz.slices_Clone_int_zero a 0 w).mono fun e w' hh=>?_;obtain⟨v',rfl,bt,_,hb⟩:=hh;exact fin v' w' [] rfl (by simp) bt hb
 ·have hv:v=.slice (some ⟨k,o,none⟩) xs.length c:=hv;subst hv
  have qy:∀i (hi:i<xs.length),∃n,xs[i]=.int n∧vs i=.int .i64 n∧(IntKind.i64).min≤n∧n≤(IntKind.i64).max:=fun i hi=>by
   obtain⟨n,e1,e2,e3,e4⟩:=(h3 i _ (aZ hi)).int_inv;exact⟨n,e2,e1,e3,e4⟩
  have B3:(xs.map D.i).map D.int=xs:=by
   apply SP (by simp);intro i xZ Gq;obtain⟨n,e1,_⟩:=qy i Gq;simp[e1]
  have j6:(xs.map D.i).length=xs.length:=by simp
  have aV:=Tryz.slices_Clone_int k o xs.length c (xs.map D.i) w (by simp) (by omega) (fun j hj=>by
   have cC:j<xs.length:=by simpa using hj
   obtain⟨n,e1,e2,_⟩:=qy j cC;have:=ar.c _ _ _ (h4 j 0 (.int .i64 n) cC (by rw[e2];rfl));have e3:(xs.map D.i).getD j 0=n:=by simp[aI,cC,e1]
   rw[e3];simpa [Ty.size] using this)
  refine aV.mono fun e w' hh=>?_;obtain⟨v',rfl,bt,_,hb⟩:=hh;refine fin v' w' (xs.map D.i) B3 (fun x hx=>?_) ?_ hb
  ·obtain⟨y,hy,rfl⟩:=cX.1 hx;obtain⟨q,hq,rfl⟩:=eZ hy;obtain⟨n,f1,f2,f3,f4⟩:=qy q hq;rw[f1];exact⟨f3,f4⟩
  ·rw[j6];rw[wq (by simp)] at bt;exact bt
end Rm
namespace Rm
open Go Cx
abbrev str (b:ByteArray):D:=.v (.string b)
def strs (l:List ByteArray):D:=.list (l.map str)
@[simp] theorem ayJ (l:List ByteArray):(strs l).l=l.map str:=_root_.id rfl
theorem str_inv {d:D}(h:DTy .str d):∃b,d=str b:=by
 cases h with
 |str b=>exact⟨b,rfl⟩
 |other t d h=>exact h.elim
theorem ao4 {d:D}(h:DTy (.slice .str) d):∃l:List ByteArray,d=strs l∧l.length≤maxLen:=by
 obtain⟨xs,rfl,hm,hx⟩:=h.slice_inv;obtain⟨l,rfl,hl⟩:=iy (enc:=str) (P:=fun _=>True) fun x hh=>(str_inv (hx x hh)).imp fun b hb=>⟨hb,trivial⟩
 exact⟨l,rfl,by simpa using hm⟩
@[simp] theorem atV (t:Tm):(dm t).cells=[.int t.op,.int t.n,.list (t.args.map dm)]:=by rw[AL];rfl
@[simp] theorem atW (t:Tm):D.agg [.int t.op,.int t.n,.list (t.args.map dm)]=dm t:=(AL t).symm
@[simp] theorem atQ (t:Tm):(dm t).c 0=.int t.op:=by rw[AL];rfl
@[simp] theorem atT (t:Tm):(dm t).c 1=.int t.n:=by rw[AL];rfl
@[simp] theorem atU (t:Tm):(dm t).c 2=.list (t.args.map dm):=by rw[AL];rfl
structure City where
 name:ByteArray
 order:Int
 currency:Int
 rest:List Int
 feasts:List Int
 shut:List Int
 deriving Inhabited
def fZ (x:City):D:=.agg [str x.name,.int x.order,.int x.currency,ints x.rest,ints x.feasts,ints x.shut]
@[simp] theorem asL (x:City):(fZ x).cells=[str x.name,.int x.order,.int x.currency,ints x.rest,ints x.feasts,ints x.shut]:=_root_.id rfl
@[simp] theorem axx (x:City):D.agg [str x.name,.int x.order,.int x.currency,ints x.rest,ints x.feasts,ints x.shut]=fZ x:=_root_.id rfl
@[simp] theorem auG (x:City):gZ 6 (fZ x)=fZ x:=_root_.id rfl
@[simp] theorem asF (x:City):(fZ x).c 0=str x.name:=_root_.id rfl
@[simp] theorem asG (x:City):(fZ x).c 1=.int x.order:=_root_.id rfl
@[simp] theorem asH (x:City):(fZ x).c 2=.int x.currency:=_root_.id rfl
@[simp] theorem asI (x:City):(fZ x).c 3=ints x.rest:=_root_.id rfl
@[simp] theorem asJ (x:City):(fZ x).c 4=ints x.feasts:=_root_.id rfl
@[simp] theorem asK (x:City):(fZ x).c 5=ints x.shut:=_root_.id rfl
def oo (l:List City):D:=.list (l.map fZ)
@[simp] theorem au9 (l:List City):(oo l).l=l.map fZ:=_root_.id rfl
abbrev Sd:Ty:=.agg [.str,.int .i64,.int .i64,.slice (.int .i64),.slice (.int .i64),.slice (.int .i64)]
def City.OK (x:City):Prop:=aY x.order∧aY x.currency∧(x.rest.length≤maxLen∧∀y,y∈x.rest→aY y)∧(x.feasts.length≤maxLen∧∀y,y∈x.feasts→aY y)∧(x.shut.length≤maxLen∧∀y,y∈x.shut→aY y)
theorem adr {d:D}(h:DTy Sd d):∃x:City,d=fZ x∧x.OK:=by
 obtain⟨ds,rfl,hs⟩:=h.agg_inv;obtain⟨d0,ds,rfl,h0,hs⟩:=hs.cons_inv;obtain⟨d1,ds,rfl,h1,hs⟩:=hs.cons_inv;obtain⟨d2,ds,rfl,h2,hs⟩:=hs.cons_inv;obtain⟨d3,ds,rfl,h3,hs⟩:=hs.cons_inv;obtain⟨d4,ds,rfl,h4,hs⟩:=hs.cons_inv;obtain⟨d5,ds,rfl,h5,hs⟩:=hs.cons_inv;obtain rfl:=hs.nil_inv;obtain⟨n0,rfl⟩:=str_inv h0;obtain⟨n1,rfl,b1⟩:=h1.i64_inv;obtain⟨n2,rfl,b2⟩:=h2.i64_inv;obtain⟨n3,rfl,b3,c3⟩:=h3.ints_inv;obtain⟨n4,rfl,b4,c4⟩:=h4.ints_inv;obtain⟨n5,rfl,b5,c5⟩:=h5.ints_inv;exact⟨⟨n0,n1,n2,n3,n4,n5⟩,rfl,⟨b1,b2,⟨b3,c3⟩,⟨b4,c4⟩,⟨b5,c5⟩⟩⟩
theorem ads {d:D}(h:DTy (.slice Sd) d):∃l:List City,d=oo l∧l.length≤maxLen∧∀y,y∈l→City.OK y:=by
 obtain⟨xs,rfl,hm,hx⟩:=h.slice_inv;obtain⟨l,rfl,hl⟩:=iy (enc:=fZ) (P:=City.OK) fun x hh=>adr (hx x hh);exact⟨l,rfl,by simpa using hm,hl⟩
structure Firm where
 name:ByteArray
 city:Int
 group:Int
 deriving Inhabited
def qe (x:Firm):D:=.agg [str x.name,.int x.city,.int x.group]
@[simp] theorem as7 (x:Firm):(qe x).cells=[str x.name,.int x.city,.int x.group]:=_root_.id rfl
@[simp] theorem axB (x:Firm):D.agg [str x.name,.int x.city,.int x.group]=qe x:=_root_.id rfl
@[simp] theorem as4 (x:Firm):(qe x).c 0=str x.name:=_root_.id rfl
@[simp] theorem as5 (x:Firm):(qe x).c 1=.int x.city:=_root_.id rfl
@[simp] theorem as6 (x:Firm):(qe x).c 2=.int x.group:=_root_.id rfl
def firms (l:List Firm):D:=.list (l.map qe)
@[simp] theorem awm (l:List Firm):(firms l).l=l.map qe:=_root_.id rfl
abbrev Sf:Ty:=.agg [.str,.int .i64,.int .i64]
def Firm.OK (x:Firm):Prop:=aY x.city∧aY x.group
theorem afn {d:D}(h:DTy Sf d):∃x:Firm,d=qe x∧x.OK:=by
 obtain⟨ds,rfl,hs⟩:=h.agg_inv;obtain⟨d0,ds,rfl,h0,hs⟩:=hs.cons_inv;obtain⟨d1,ds,rfl,h1,hs⟩:=hs.cons_inv;obtain⟨d2,ds,rfl,h2,hs⟩:=hs.cons_inv;obtain rfl:=hs.nil_inv;obtain⟨n0,rfl⟩:=str_inv h0;obtain⟨n1,rfl,b1⟩:=h1.i64_inv;obtain⟨n2,rfl,b2⟩:=h2.i64_inv;exact⟨⟨n0,n1,n2⟩,rfl,⟨b1,b2⟩⟩
theorem afo {d:D}(h:DTy (.slice Sf) d):∃l:List Firm,d=firms l∧l.length≤maxLen∧∀y,y∈l→Firm.OK y:=by
 obtain⟨xs,rfl,hm,hx⟩:=h.slice_inv;obtain⟨l,rfl,hl⟩:=iy (enc:=qe) (P:=Firm.OK) fun x hh=>afn (hx x hh);exact⟨l,rfl,by simpa using hm,hl⟩
structure Group where
 grade:Int
 deriving DecidableEq,Inhabited
def tU (x:Group):D:=.agg [.int x.grade]
@[simp] theorem as9 (x:Group):(tU x).cells=[.int x.grade]:=_root_.id rfl
@[simp] theorem axC (x:Group):D.agg [.int x.grade]=tU x:=_root_.id rfl
@[simp] theorem as8 (x:Group):(tU x).c 0=.int x.grade:=_root_.id rfl
def groups (l:List Group):D:=.list (l.map tU)
@[simp] theorem awu (l:List Group):(groups l).l=l.map tU:=_root_.id rfl
abbrev Sg:Ty:=.agg [.int .i64]
def Group.OK (x:Group):Prop:=aY x.grade
theorem agw {d:D}(h:DTy Sg d):∃x:Group,d=tU x∧x.OK:=by
 obtain⟨ds,rfl,hs⟩:=h.agg_inv;obtain⟨d0,ds,rfl,h0,hs⟩:=hs.cons_inv;obtain rfl:=hs.nil_inv;obtain⟨n0,rfl,b0⟩:=h0.i64_inv;exact⟨⟨n0⟩,rfl,b0⟩
theorem agx {d:D}(h:DTy (.slice Sg) d):∃l:List Group,d=groups l∧l.length≤maxLen∧∀y,y∈l→Group.OK y:=by
 obtain⟨xs,rfl,hm,hx⟩:=h.slice_inv;obtain⟨l,rfl,hl⟩:=iy (enc:=tU) (P:=Group.OK) fun x hh=>agw (hx x hh);exact⟨l,rfl,by simpa using hm,hl⟩
structure Usance where
 fr:Int
 to:Int
 days:Int
 deriving DecidableEq,Inhabited
def qj (x:Usance):D:=.agg [.int x.fr,.int x.to,.int x.days]
@[simp] theorem at5 (x:Usance):(qj x).cells=[.int x.fr,.int x.to,.int x.days]:=_root_.id rfl
@[simp] theorem axM (x:Usance):D.agg [.int x.fr,.int x.to,.int x.days]=qj x:=_root_.id rfl
@[simp] theorem at2 (x:Usance):(qj x).c 0=.int x.fr:=_root_.id rfl
@[simp] theorem at3 (x:Usance):(qj x).c 1=.int x.to:=_root_.id rfl
@[simp] theorem at4 (x:Usance):(qj x).c 2=.int x.days:=_root_.id rfl
def usances (l:List Usance):D:=.list (l.map qj)
@[simp] theorem ayN (l:List Usance):(usances l).l=l.map qj:=_root_.id rfl
abbrev Sn:Ty:=.agg [.int .i64,.int .i64,.int .i64]
def Usance.OK (x:Usance):Prop:=aY x.fr∧aY x.to∧aY x.days
theorem arB {d:D}(h:DTy Sn d):∃x:Usance,d=qj x∧x.OK:=by
 obtain⟨ds,rfl,hs⟩:=h.agg_inv;obtain⟨d0,ds,rfl,h0,hs⟩:=hs.cons_inv;obtain⟨d1,ds,rfl,h1,hs⟩:=hs.cons_inv;obtain⟨d2,ds,rfl,h2,hs⟩:=hs.cons_inv;obtain rfl:=hs.nil_inv;obtain⟨n0,rfl,b0⟩:=h0.i64_inv;obtain⟨n1,rfl,b1⟩:=h1.i64_inv;obtain⟨n2,rfl,b2⟩:=h2.i64_inv;exact⟨⟨n0,n1,n2⟩,rfl,⟨b0,b1,b2⟩⟩
theorem arC {d:D}(h:DTy (.slice Sn) d):∃l:List Usance,d=usances l∧l.length≤maxLen∧∀y,y∈l→Usance.OK y:=by
 obtain⟨xs,rfl,hm,hx⟩:=h.slice_inv;obtain⟨l,rfl,hl⟩:=iy (enc:=qj) (P:=Usance.OK) fun x hh=>arB (hx x hh);exact⟨l,rfl,by simpa using hm,hl⟩
structure Rate where
 fr:Int
 to:Int
 num:Int
 den:Int
 since:Int
 deriving DecidableEq,Inhabited
def m8 (x:Rate):D:=.agg [.int x.fr,.int x.to,.int x.num,.int x.den,.int x.since]
@[simp] theorem ato (x:Rate):(m8 x).cells=[.int x.fr,.int x.to,.int x.num,.int x.den,.int x.since]:=_root_.id rfl
@[simp] theorem axF (x:Rate):D.agg [.int x.fr,.int x.to,.int x.num,.int x.den,.int x.since]=m8 x:=_root_.id rfl
@[simp] theorem atj (x:Rate):(m8 x).c 0=.int x.fr:=_root_.id rfl
@[simp] theorem atk (x:Rate):(m8 x).c 1=.int x.to:=_root_.id rfl
@[simp] theorem atl (x:Rate):(m8 x).c 2=.int x.num:=_root_.id rfl
@[simp] theorem atm (x:Rate):(m8 x).c 3=.int x.den:=_root_.id rfl
@[simp] theorem atn (x:Rate):(m8 x).c 4=.int x.since:=_root_.id rfl
def rates (l:List Rate):D:=.list (l.map m8)
@[simp] theorem ax7 (l:List Rate):(rates l).l=l.map m8:=_root_.id rfl
abbrev Sk:Ty:=.agg [.int .i64,.int .i64,.int .i64,.int .i64,.int .i64]
def Rate.OK (x:Rate):Prop:=aY x.fr∧aY x.to∧aY x.num∧aY x.den∧aY x.since
theorem anN {d:D}(h:DTy Sk d):∃x:Rate,d=m8 x∧x.OK:=by
 obtain⟨ds,rfl,hs⟩:=h.agg_inv;obtain⟨d0,ds,rfl,h0,hs⟩:=hs.cons_inv;obtain⟨d1,ds,rfl,h1,hs⟩:=hs.cons_inv;obtain⟨d2,ds,rfl,h2,hs⟩:=hs.cons_inv;obtain⟨d3,ds,rfl,h3,hs⟩:=hs.cons_inv;obtain⟨d4,ds,rfl,h4,hs⟩:=hs.cons_inv;obtain rfl:=hs.nil_inv;obtain⟨n0,rfl,b0⟩:=h0.i64_inv;obtain⟨n1,rfl,b1⟩:=h1.i64_inv;obtain⟨n2,rfl,b2⟩:=h2.i64_inv;obtain⟨n3,rfl,b3⟩:=h3.i64_inv;obtain⟨n4,rfl,b4⟩:=h4.i64_inv;exact⟨⟨n0,n1,n2,n3,n4⟩,rfl,⟨b0,b1,b2,b3,b4⟩⟩
theorem anO {d:D}(h:DTy (.slice Sk) d):∃l:List Rate,d=rates l∧l.length≤maxLen∧∀y,y∈l→Rate.OK y:=by
 obtain⟨xs,rfl,hm,hx⟩:=h.slice_inv;obtain⟨l,rfl,hl⟩:=iy (enc:=m8) (P:=Rate.OK) fun x hh=>anN (hx x hh);exact⟨l,rfl,by simpa using hm,hl⟩
structure Halt where
 order:Int
 fr:Int
 to:Int
 deriving DecidableEq,Inhabited
def qf (x:Halt):D:=.agg [.int x.order,.int x.fr,.int x.to]
@[simp] theorem atd (x:Halt):(qf x).cells=[.int x.order,.int x.fr,.int x.to]:=_root_.id rfl
@[simp] theorem axD (x:Halt):D.agg [.int x.order,.int x.fr,.int x.to]=qf x:=_root_.id rfl
@[simp] theorem ata (x:Halt):(qf x).c 0=.int x.order:=_root_.id rfl
@[simp] theorem atb (x:Halt):(qf x).c 1=.int x.fr:=_root_.id rfl
@[simp] theorem atc (x:Halt):(qf x).c 2=.int x.to:=_root_.id rfl
def halts (l:List Halt):D:=.list (l.map qf)
@[simp] theorem awC (l:List Halt):(halts l).l=l.map qf:=_root_.id rfl
abbrev Si:Ty:=.agg [.int .i64,.int .i64,.int .i64]
def Halt.OK (x:Halt):Prop:=aY x.order∧aY x.fr∧aY x.to
theorem ag0 {d:D}(h:DTy Si d):∃x:Halt,d=qf x∧x.OK:=by
 obtain⟨ds,rfl,hs⟩:=h.agg_inv;obtain⟨d0,ds,rfl,h0,hs⟩:=hs.cons_inv;obtain⟨d1,ds,rfl,h1,hs⟩:=hs.cons_inv;obtain⟨d2,ds,rfl,h2,hs⟩:=hs.cons_inv;obtain rfl:=hs.nil_inv;obtain⟨n0,rfl,b0⟩:=h0.i64_inv;obtain⟨n1,rfl,b1⟩:=h1.i64_inv;obtain⟨n2,rfl,b2⟩:=h2.i64_inv;exact⟨⟨n0,n1,n2⟩,rfl,⟨b0,b1,b2⟩⟩
theorem ag1 {d:D}(h:DTy (.slice Si) d):∃l:List Halt,d=halts l∧l.length≤maxLen∧∀y,y∈l→Halt.OK y:=by
 obtain⟨xs,rfl,hm,hx⟩:=h.slice_inv;obtain⟨l,rfl,hl⟩:=iy (enc:=qf) (P:=Halt.OK) fun x hh=>ag0 (hx x hh);exact⟨l,rfl,by simpa using hm,hl⟩
structure Choice where
 ask:Int
 by_:Int
 whole:Bool
 deriving DecidableEq,Inhabited
def rD (x:Choice):D:=.agg [.int x.ask,.int x.by_,.bool x.whole]
@[simp] theorem asE (x:Choice):(rD x).cells=[.int x.ask,.int x.by_,.bool x.whole]:=_root_.id rfl
@[simp] theorem axw (x:Choice):D.agg [.int x.ask,.int x.by_,.bool x.whole]=rD x:=_root_.id rfl
@[simp] theorem asC (x:Choice):(rD x).c 0=.int x.ask:=_root_.id rfl
@[simp] theorem asD (x:Choice):(rD x).c 1=.int x.by_:=_root_.id rfl
def choices (l:List Choice):D:=.list (l.map rD)
@[simp] theorem au8 (l:List Choice):(choices l).l=l.map rD:=_root_.id rfl
abbrev Sc:Ty:=.agg [.int .i64,.int .i64,.bool]
def Choice.OK (x:Choice):Prop:=aY x.ask∧aY x.by_
theorem adp {d:D}(h:DTy Sc d):∃x:Choice,d=rD x∧x.OK:=by
 obtain⟨ds,rfl,hs⟩:=h.agg_inv;obtain⟨d0,ds,rfl,h0,hs⟩:=hs.cons_inv;obtain⟨d1,ds,rfl,h1,hs⟩:=hs.cons_inv;obtain⟨d2,ds,rfl,h2,hs⟩:=hs.cons_inv;obtain rfl:=hs.nil_inv;obtain⟨n0,rfl,b0⟩:=h0.i64_inv;obtain⟨n1,rfl,b1⟩:=h1.i64_inv;obtain⟨n2,rfl⟩:=h2.bool_inv;exact⟨⟨n0,n1,n2⟩,rfl,⟨b0,b1⟩⟩
theorem adq {d:D}(h:DTy (.slice Sc) d):∃l:List Choice,d=choices l∧l.length≤maxLen∧∀y,y∈l→Choice.OK y:=by
 obtain⟨xs,rfl,hm,hx⟩:=h.slice_inv;obtain⟨l,rfl,hl⟩:=iy (enc:=rD) (P:=Choice.OK) fun x hh=>adp (hx x hh);exact⟨l,rfl,by simpa using hm,hl⟩
structure Rule where
 ask:Int
 term:Tm
 deriving Inhabited
def qg (x:Rule):D:=.agg [.int x.ask,.int x.term.op,.int x.term.n,.list (x.term.args.map dm)]
@[simp] theorem atz (x:Rule):(qg x).cells=[.int x.ask,.int x.term.op,.int x.term.n,.list (x.term.args.map dm)]:=_root_.id rfl
@[simp] theorem axH (x:Rule):D.agg [.int x.ask,.int x.term.op,.int x.term.n,.list (x.term.args.map dm)]=qg x:=_root_.id rfl
@[simp] theorem aty (x:Rule):(qg x).c 0=.int x.ask:=_root_.id rfl
def rules (l:List Rule):D:=.list (l.map qg)
@[simp] theorem ayc (l:List Rule):(rules l).l=l.map qg:=_root_.id rfl
abbrev Sl:Ty:=.agg [.int .i64,.int .i64,.int .i64,.slice .trm]
def Rule.OK (x:Rule):Prop:=aY x.ask∧Tm.OK x.term
theorem aoz {d:D}(h:DTy Sl d):∃x:Rule,d=qg x∧x.OK:=by
 obtain⟨ds,rfl,hs⟩:=h.agg_inv;obtain⟨d0,ds,rfl,h0,hs⟩:=hs.cons_inv;obtain⟨d1,ds,rfl,h1,hs⟩:=hs.cons_inv;obtain⟨d2,ds,rfl,h2,hs⟩:=hs.cons_inv;obtain⟨d3,ds,rfl,h3,hs⟩:=hs.cons_inv;obtain rfl:=hs.nil_inv;obtain⟨n0,rfl,b0⟩:=h0.i64_inv;obtain⟨n1,rfl,b1⟩:=h1.i64_inv;obtain⟨n2,rfl,b2⟩:=h2.i64_inv;obtain⟨n3,rfl,b3,c3⟩:=h3.trms_inv;exact⟨⟨n0,.mk n1 n2 n3⟩,rfl,⟨b0,.mk _ _ _ b1 b2 b3 c3⟩⟩
theorem aoA {d:D}(h:DTy (.slice Sl) d):∃l:List Rule,d=rules l∧l.length≤maxLen∧∀y,y∈l→Rule.OK y:=by
 obtain⟨xs,rfl,hm,hx⟩:=h.slice_inv;obtain⟨l,rfl,hl⟩:=iy (enc:=qg) (P:=Rule.OK) fun x hh=>aoz (hx x hh);exact⟨l,rfl,by simpa using hm,hl⟩
structure Order where
 name:ByteArray
 accepts:Bool
 choices:List Choice
 rules:List Rule
 deriving Inhabited
def jr (x:Order):D:=.agg [str x.name,.bool x.accepts,choices x.choices,rules x.rules]
@[simp] theorem ati (x:Order):(jr x).cells=[str x.name,.bool x.accepts,choices x.choices,rules x.rules]:=_root_.id rfl
@[simp] theorem axE (x:Order):D.agg [str x.name,.bool x.accepts,choices x.choices,rules x.rules]=jr x:=_root_.id rfl
@[simp] theorem auI (x:Order):gZ 4 (jr x)=jr x:=_root_.id rfl
@[simp] theorem ate (x:Order):(jr x).c 0=str x.name:=_root_.id rfl
@[simp] theorem atf (x:Order):(jr x).c 1=.bool x.accepts:=_root_.id rfl
@[simp] theorem atg (x:Order):(jr x).c 2=choices x.choices:=_root_.id rfl
@[simp] theorem ath (x:Order):(jr x).c 3=rules x.rules:=_root_.id rfl
def orders (l:List Order):D:=.list (l.map jr)
@[simp] theorem axU (l:List Order):(orders l).l=l.map jr:=_root_.id rfl
abbrev Sj:Ty:=.agg [.str,.bool,.slice Sc,.slice Sl]
def Order.OK (x:Order):Prop:=(x.choices.length≤maxLen∧∀y,y∈x.choices→Choice.OK y)∧(x.rules.length≤maxLen∧∀y,y∈x.rules→Rule.OK y)
theorem am2 {d:D}(h:DTy Sj d):∃x:Order,d=jr x∧x.OK:=by
 obtain⟨ds,rfl,hs⟩:=h.agg_inv;obtain⟨d0,ds,rfl,h0,hs⟩:=hs.cons_inv;obtain⟨d1,ds,rfl,h1,hs⟩:=hs.cons_inv;obtain⟨d2,ds,rfl,h2,hs⟩:=hs.cons_inv;obtain⟨d3,ds,rfl,h3,hs⟩:=hs.cons_inv;obtain rfl:=hs.nil_inv;obtain⟨n0,rfl⟩:=str_inv h0;obtain⟨n1,rfl⟩:=h1.bool_inv;obtain⟨n2,rfl,b2,c2⟩:=adq h2;obtain⟨n3,rfl,b3,c3⟩:=aoA h3;exact⟨⟨n0,n1,n2,n3⟩,rfl,⟨⟨b2,c2⟩,⟨b3,c3⟩⟩⟩
theorem am3 {d:D}(h:DTy (.slice Sj) d):∃l:List Order,d=orders l∧l.length≤maxLen∧∀y,y∈l→Order.OK y:=by
 obtain⟨xs,rfl,hm,hx⟩:=h.slice_inv;obtain⟨l,rfl,hl⟩:=iy (enc:=jr) (P:=Order.OK) fun x hh=>am2 (hx x hh);exact⟨l,rfl,by simpa using hm,hl⟩
structure Realm where
 currencies:List ByteArray
 cities:List City
 groups:List Group
 firms:List Firm
 orders:List Order
 usances:List Usance
 rates:List Rate
 halts:List Halt
 deriving Inhabited
def bq (x:Realm):D:=.agg [strs x.currencies,oo x.cities,groups x.groups,firms x.firms,orders x.orders,usances x.usances,rates x.rates,halts x.halts]
@[simp] theorem atx (x:Realm):(bq x).cells=[strs x.currencies,oo x.cities,groups x.groups,firms x.firms,orders x.orders,usances x.usances,rates x.rates,halts x.halts]:=_root_.id rfl
@[simp] theorem axG (x:Realm):D.agg [strs x.currencies,oo x.cities,groups x.groups,firms x.firms,orders x.orders,usances x.usances,rates x.rates,halts x.halts]=bq x:=_root_.id rfl
@[simp] theorem auJ (x:Realm):gZ 8 (bq x)=bq x:=_root_.id rfl
@[simp] theorem atp (x:Realm):(bq x).c 0=strs x.currencies:=_root_.id rfl
@[simp] theorem atq (x:Realm):(bq x).c 1=oo x.cities:=_root_.id rfl
@[simp] theorem atr (x:Realm):(bq x).c 2=groups x.groups:=_root_.id rfl
@[simp] theorem ats (x:Realm):(bq x).c 3=firms x.firms:=_root_.id rfl
@[simp] theorem att (x:Realm):(bq x).c 4=orders x.orders:=_root_.id rfl
@[simp] theorem atu (x:Realm):(bq x).c 5=usances x.usances:=_root_.id rfl
@[simp] theorem atv (x:Realm):(bq x).c 6=rates x.rates:=_root_.id rfl
@[simp] theorem atw (x:Realm):(bq x).c 7=halts x.halts:=_root_.id rfl
abbrev arv:Ty:=.agg [.slice .str,.slice Sd,.slice Sg,.slice Sf,.slice Sj,.slice Sn,.slice Sk,.slice Si]
def Realm.OK (x:Realm):Prop:=x.currencies.length≤maxLen∧(x.cities.length≤maxLen∧∀y,y∈x.cities→City.OK y)∧(x.groups.length≤maxLen∧∀y,y∈x.groups→Group.OK y)∧(x.firms.length≤maxLen∧∀y,y∈x.firms→Firm.OK y)∧(x.orders.length≤maxLen∧∀y,y∈x.orders→Order.OK y)∧(x.usances.length≤maxLen∧∀y,y∈x.usances→Usance.OK y)∧(x.rates.length≤maxLen∧∀y,y∈x.rates→Rate.OK y)∧(x.halts.length≤maxLen∧∀y,y∈x.halts→Halt.OK y)
theorem an9 {d:D}(h:DTy arv d):∃x:Realm,d=bq x∧x.OK:=by
 obtain⟨ds,rfl,hs⟩:=h.agg_inv;obtain⟨d0,ds,rfl,h0,hs⟩:=hs.cons_inv;obtain⟨d1,ds,rfl,h1,hs⟩:=hs.cons_inv;obtain⟨d2,ds,rfl,h2,hs⟩:=hs.cons_inv;obtain⟨d3,ds,rfl,h3,hs⟩:=hs.cons_inv;obtain⟨d4,ds,rfl,h4,hs⟩:=hs.cons_inv;obtain⟨d5,ds,rfl,h5,hs⟩:=hs.cons_inv;obtain⟨d6,ds,rfl,h6,hs⟩:=hs.cons_inv;obtain⟨d7,ds,rfl,h7,hs⟩:=hs.cons_inv;obtain rfl:=hs.nil_inv;obtain⟨n0,rfl,b0⟩:=ao4 h0;obtain⟨n1,rfl,b1,c1⟩:=ads h1;obtain⟨n2,rfl,b2,c2⟩:=agx h2;obtain⟨n3,rfl,b3,c3⟩:=afo h3;obtain⟨n4,rfl,b4,c4⟩:=am3 h4;obtain⟨n5,rfl,b5,c5⟩:=arC h5;obtain⟨n6,rfl,b6,c6⟩:=anO h6;obtain⟨n7,rfl,b7,c7⟩:=ag1 h7;exact⟨⟨n0,n1,n2,n3,n4,n5,n6,n7⟩,rfl,⟨b0,⟨b1,c1⟩,⟨b2,c2⟩,⟨b3,c3⟩,⟨b4,c4⟩,⟨b5,c5⟩,⟨b6,c6⟩,⟨b7,c7⟩⟩⟩
structure Tenor where
 kind:Int
 n:Int
 unit:Int
 deriving DecidableEq,Inhabited
def qh (x:Tenor):D:=.agg [.int x.kind,.int x.n,.int x.unit]
@[simp] theorem at0 (x:Tenor):(qh x).cells=[.int x.kind,.int x.n,.int x.unit]:=_root_.id rfl
@[simp] theorem axL (x:Tenor):D.agg [.int x.kind,.int x.n,.int x.unit]=qh x:=_root_.id rfl
@[simp] theorem atX (x:Tenor):(qh x).c 0=.int x.kind:=_root_.id rfl
@[simp] theorem atY (x:Tenor):(qh x).c 1=.int x.n:=_root_.id rfl
@[simp] theorem atZ (x:Tenor):(qh x).c 2=.int x.unit:=_root_.id rfl
def Tenor.OK (x:Tenor):Prop:=aY x.kind∧aY x.n∧aY x.unit
structure Bill where
 drawer:Int
 drawee:Int
 payee:Int
 sum:Int
 currency:Int
 tenor:Tenor
 day:Int
 city:Int
 pay:Int
 need:Int
 rate:Int
 flags:Int
 parts:Int
 deriving DecidableEq,Inhabited
def dN (x:Bill):D:=.agg [.int x.drawer,.int x.drawee,.int x.payee,.int x.sum,.int x.currency,.int x.tenor.kind,.int x.tenor.n,.int x.tenor.unit,.int x.day,.int x.city,.int x.pay,.int x.need,.int x.rate,.int x.flags,.int x.parts]
@[simp] theorem asp (x:Bill):(dN x).cells=[.int x.drawer,.int x.drawee,.int x.payee,.int x.sum,.int x.currency,.int x.tenor.kind,.int x.tenor.n,.int x.tenor.unit,.int x.day,.int x.city,.int x.pay,.int x.need,.int x.rate,.int x.flags,.int x.parts]:=_root_.id rfl
@[simp] theorem axt (x:Bill):D.agg [.int x.drawer,.int x.drawee,.int x.payee,.int x.sum,.int x.currency,.int x.tenor.kind,.int x.tenor.n,.int x.tenor.unit,.int x.day,.int x.city,.int x.pay,.int x.need,.int x.rate,.int x.flags,.int x.parts]=dN x:=_root_.id rfl
@[simp] theorem auF (x:Bill):gZ 15 (dN x)=dN x:=_root_.id rfl
@[simp] theorem axV (x:Bill)(a0 a1 a2 a3 a4 a5 a6 a7 a8 a9 mS mT a12 mU mV:D):D.agg (cw [a0,a1,a2,a3,a4,a5,a6,a7,a8,a9,mS,mT,a12,mU,mV] 0 [.int x.drawer,.int x.drawee,.int x.payee,.int x.sum,.int x.currency,.int x.tenor.kind,.int x.tenor.n,.int x.tenor.unit,.int x.day,.int x.city,.int x.pay,.int x.need,.int x.rate,.int x.flags,.int x.parts])=dN x:=_root_.id rfl
@[simp] theorem ar8 (x:Bill):(dN x).c 0=.int x.drawer:=_root_.id rfl
@[simp] theorem ar9 (x:Bill):(dN x).c 1=.int x.drawee:=_root_.id rfl
@[simp] theorem asf (x:Bill):(dN x).c 2=.int x.payee:=_root_.id rfl
@[simp] theorem asg (x:Bill):(dN x).c 3=.int x.sum:=_root_.id rfl
@[simp] theorem ash (x:Bill):(dN x).c 4=.int x.currency:=_root_.id rfl
@[simp] theorem asi (x:Bill):(dN x).c 5=.int x.tenor.kind:=_root_.id rfl
@[simp] theorem asj (x:Bill):(dN x).c 6=.int x.tenor.n:=_root_.id rfl
@[simp] theorem asl (x:Bill):(dN x).c 7=.int x.tenor.unit:=_root_.id rfl
@[simp] theorem asn (x:Bill):(dN x).c 8=.int x.day:=_root_.id rfl
@[simp] theorem aso (x:Bill):(dN x).c 9=.int x.city:=_root_.id rfl
@[simp] theorem asa (x:Bill):(dN x).c 10=.int x.pay:=_root_.id rfl
@[simp] theorem asb (x:Bill):(dN x).c 11=.int x.need:=_root_.id rfl
@[simp] theorem asc (x:Bill):(dN x).c 12=.int x.rate:=_root_.id rfl
@[simp] theorem asd (x:Bill):(dN x).c 13=.int x.flags:=_root_.id rfl
@[simp] theorem ase (x:Bill):(dN x).c 14=.int x.parts:=_root_.id rfl
def Bill.OK (x:Bill):Prop:=aY x.drawer∧aY x.drawee∧aY x.payee∧aY x.sum∧aY x.currency∧Tenor.OK x.tenor∧aY x.day∧aY x.city∧aY x.pay∧aY x.need∧aY x.rate∧aY x.flags∧aY x.parts
structure Sign where
 kind:Int
 part:Int
 who:Int
 for_:Int
 to:Int
 sum:Int
 day:Int
 city:Int
 flags:Int
 deriving DecidableEq,Inhabited
def iT (x:Sign):D:=.agg [.int x.kind,.int x.part,.int x.who,.int x.for_,.int x.to,.int x.sum,.int x.day,.int x.city,.int x.flags]
@[simp] theorem atP (x:Sign):(iT x).cells=[.int x.kind,.int x.part,.int x.who,.int x.for_,.int x.to,.int x.sum,.int x.day,.int x.city,.int x.flags]:=_root_.id rfl
@[simp] theorem axK (x:Sign):D.agg [.int x.kind,.int x.part,.int x.who,.int x.for_,.int x.to,.int x.sum,.int x.day,.int x.city,.int x.flags]=iT x:=_root_.id rfl
@[simp] theorem auL (x:Sign):gZ 9 (iT x)=iT x:=_root_.id rfl
@[simp] theorem atG (x:Sign):(iT x).c 0=.int x.kind:=_root_.id rfl
@[simp] theorem atH (x:Sign):(iT x).c 1=.int x.part:=_root_.id rfl
@[simp] theorem atI (x:Sign):(iT x).c 2=.int x.who:=_root_.id rfl
@[simp] theorem atJ (x:Sign):(iT x).c 3=.int x.for_:=_root_.id rfl
@[simp] theorem atK (x:Sign):(iT x).c 4=.int x.to:=_root_.id rfl
@[simp] theorem atL (x:Sign):(iT x).c 5=.int x.sum:=_root_.id rfl
@[simp] theorem atM (x:Sign):(iT x).c 6=.int x.day:=_root_.id rfl
@[simp] theorem atN (x:Sign):(iT x).c 7=.int x.city:=_root_.id rfl
@[simp] theorem atO (x:Sign):(iT x).c 8=.int x.flags:=_root_.id rfl
def signs (l:List Sign):D:=.list (l.map iT)
@[simp] theorem ayo (l:List Sign):(signs l).l=l.map iT:=_root_.id rfl
@[simp] theorem ayn (l:List Sign):(signs l).cells=[signs l]:=_root_.id rfl
abbrev Sm:Ty:=.agg [.int .i64,.int .i64,.int .i64,.int .i64,.int .i64,.int .i64,.int .i64,.int .i64,.int .i64]
def Sign.OK (x:Sign):Prop:=aY x.kind∧aY x.part∧aY x.who∧aY x.for_∧aY x.to∧aY x.sum∧aY x.day∧aY x.city∧aY x.flags
theorem aoU {d:D}(h:DTy Sm d):∃x:Sign,d=iT x∧x.OK:=by
 obtain⟨ds,rfl,hs⟩:=h.agg_inv;obtain⟨d0,ds,rfl,h0,hs⟩:=hs.cons_inv;obtain⟨d1,ds,rfl,h1,hs⟩:=hs.cons_inv;obtain⟨d2,ds,rfl,h2,hs⟩:=hs.cons_inv;obtain⟨d3,ds,rfl,h3,hs⟩:=hs.cons_inv;obtain⟨d4,ds,rfl,h4,hs⟩:=hs.cons_inv;obtain⟨d5,ds,rfl,h5,hs⟩:=hs.cons_inv;obtain⟨d6,ds,rfl,h6,hs⟩:=hs.cons_inv;obtain⟨d7,ds,rfl,h7,hs⟩:=hs.cons_inv;obtain⟨d8,ds,rfl,h8,hs⟩:=hs.cons_inv;obtain rfl:=hs.nil_inv;obtain⟨n0,rfl,b0⟩:=h0.i64_inv;obtain⟨n1,rfl,b1⟩:=h1.i64_inv;obtain⟨n2,rfl,b2⟩:=h2.i64_inv;obtain⟨n3,rfl,b3⟩:=h3.i64_inv;obtain⟨n4,rfl,b4⟩:=h4.i64_inv;obtain⟨n5,rfl,b5⟩:=h5.i64_inv;obtain⟨n6,rfl,b6⟩:=h6.i64_inv;obtain⟨n7,rfl,b7⟩:=h7.i64_inv;obtain⟨n8,rfl,b8⟩:=h8.i64_inv;exact⟨⟨n0,n1,n2,n3,n4,n5,n6,n7,n8⟩,rfl,⟨b0,b1,b2,b3,b4,b5,b6,b7,b8⟩⟩
theorem aoW {d:D}(h:DTy (.slice Sm) d):∃l:List Sign,d=signs l∧l.length≤maxLen∧∀y,y∈l→Sign.OK y:=by
 obtain⟨xs,rfl,hm,hx⟩:=h.slice_inv;obtain⟨l,rfl,hl⟩:=iy (enc:=iT) (P:=Sign.OK) fun x hh=>aoU (hx x hh);exact⟨l,rfl,by simpa using hm,hl⟩
structure Alter where
 at_:Int
 sum:Int
 deriving DecidableEq,Inhabited
def m5 (x:Alter):D:=.agg [.int x.at_,.int x.sum]
@[simp] theorem ar7 (x:Alter):(m5 x).cells=[.int x.at_,.int x.sum]:=_root_.id rfl
@[simp] theorem axs (x:Alter):D.agg [.int x.at_,.int x.sum]=m5 x:=_root_.id rfl
@[simp] theorem ar5 (x:Alter):(m5 x).c 0=.int x.at_:=_root_.id rfl
@[simp] theorem ar6 (x:Alter):(m5 x).c 1=.int x.sum:=_root_.id rfl
def alters (l:List Alter):D:=.list (l.map m5)
@[simp] theorem auP (l:List Alter):(alters l).l=l.map m5:=_root_.id rfl
@[simp] theorem auO (l:List Alter):(alters l).cells=[alters l]:=_root_.id rfl
abbrev Sb:Ty:=.agg [.int .i64,.int .i64]
def Alter.OK (x:Alter):Prop:=aY x.at_∧aY x.sum
theorem aca {d:D}(h:DTy Sb d):∃x:Alter,d=m5 x∧x.OK:=by
 obtain⟨ds,rfl,hs⟩:=h.agg_inv;obtain⟨d0,ds,rfl,h0,hs⟩:=hs.cons_inv;obtain⟨d1,ds,rfl,h1,hs⟩:=hs.cons_inv;obtain rfl:=hs.nil_inv;obtain⟨n0,rfl,b0⟩:=h0.i64_inv;obtain⟨n1,rfl,b1⟩:=h1.i64_inv;exact⟨⟨n0,n1⟩,rfl,⟨b0,b1⟩⟩
theorem acb {d:D}(h:DTy (.slice Sb) d):∃l:List Alter,d=alters l∧l.length≤maxLen∧∀y,y∈l→Alter.OK y:=by
 obtain⟨xs,rfl,hm,hx⟩:=h.slice_inv;obtain⟨l,rfl,hl⟩:=iy (enc:=m5) (P:=Alter.OK) fun x hh=>aca (hx x hh);exact⟨l,rfl,by simpa using hm,hl⟩
structure Act where
 kind:Int
 who:Int
 to:Int
 part:Int
 at_:Int
 sum:Int
 day:Int
 city:Int
 form:Int
 deriving DecidableEq,Inhabited
def ib (x:Act):D:=.agg [.int x.kind,.int x.who,.int x.to,.int x.part,.int x.at_,.int x.sum,.int x.day,.int x.city,.int x.form]
@[simp] theorem ar4 (x:Act):(ib x).cells=[.int x.kind,.int x.who,.int x.to,.int x.part,.int x.at_,.int x.sum,.int x.day,.int x.city,.int x.form]:=_root_.id rfl
@[simp] theorem axr (x:Act):D.agg [.int x.kind,.int x.who,.int x.to,.int x.part,.int x.at_,.int x.sum,.int x.day,.int x.city,.int x.form]=ib x:=_root_.id rfl
@[simp] theorem auE (x:Act):gZ 9 (ib x)=ib x:=_root_.id rfl
@[simp] theorem arV (x:Act):(ib x).c 0=.int x.kind:=_root_.id rfl
@[simp] theorem arW (x:Act):(ib x).c 1=.int x.who:=_root_.id rfl
@[simp] theorem arX (x:Act):(ib x).c 2=.int x.to:=_root_.id rfl
@[simp] theorem arY (x:Act):(ib x).c 3=.int x.part:=_root_.id rfl
@[simp] theorem arZ (x:Act):(ib x).c 4=.int x.at_:=_root_.id rfl
@[simp] theorem ar0 (x:Act):(ib x).c 5=.int x.sum:=_root_.id rfl
@[simp] theorem ar1 (x:Act):(ib x).c 6=.int x.day:=_root_.id rfl
@[simp] theorem ar2 (x:Act):(ib x).c 7=.int x.city:=_root_.id rfl
@[simp] theorem ar3 (x:Act):(ib x).c 8=.int x.form:=_root_.id rfl
def acts (l:List Act):D:=.list (l.map ib)
@[simp] theorem auy (l:List Act):(acts l).l=l.map ib:=_root_.id rfl
@[simp] theorem auw (l:List Act):(acts l).cells=[acts l]:=_root_.id rfl
abbrev Sa:Ty:=.agg [.int .i64,.int .i64,.int .i64,.int .i64,.int .i64,.int .i64,.int .i64,.int .i64,.int .i64]
def Act.OK (x:Act):Prop:=aY x.kind∧aY x.who∧aY x.to∧aY x.part∧aY x.at_∧aY x.sum∧aY x.day∧aY x.city∧aY x.form
theorem ab1 {d:D}(h:DTy Sa d):∃x:Act,d=ib x∧x.OK:=by
 obtain⟨ds,rfl,hs⟩:=h.agg_inv;obtain⟨d0,ds,rfl,h0,hs⟩:=hs.cons_inv;obtain⟨d1,ds,rfl,h1,hs⟩:=hs.cons_inv;obtain⟨d2,ds,rfl,h2,hs⟩:=hs.cons_inv;obtain⟨d3,ds,rfl,h3,hs⟩:=hs.cons_inv;obtain⟨d4,ds,rfl,h4,hs⟩:=hs.cons_inv;obtain⟨d5,ds,rfl,h5,hs⟩:=hs.cons_inv;obtain⟨d6,ds,rfl,h6,hs⟩:=hs.cons_inv;obtain⟨d7,ds,rfl,h7,hs⟩:=hs.cons_inv;obtain⟨d8,ds,rfl,h8,hs⟩:=hs.cons_inv;obtain rfl:=hs.nil_inv;obtain⟨n0,rfl,b0⟩:=h0.i64_inv;obtain⟨n1,rfl,b1⟩:=h1.i64_inv;obtain⟨n2,rfl,b2⟩:=h2.i64_inv;obtain⟨n3,rfl,b3⟩:=h3.i64_inv;obtain⟨n4,rfl,b4⟩:=h4.i64_inv;obtain⟨n5,rfl,b5⟩:=h5.i64_inv;obtain⟨n6,rfl,b6⟩:=h6.i64_inv;obtain⟨n7,rfl,b7⟩:=h7.i64_inv;obtain⟨n8,rfl,b8⟩:=h8.i64_inv;exact⟨⟨n0,n1,n2,n3,n4,n5,n6,n7,n8⟩,rfl,⟨b0,b1,b2,b3,b4,b5,b6,b7,b8⟩⟩
theorem ab2 {d:D}(h:DTy (.slice Sa) d):∃l:List Act,d=acts l∧l.length≤maxLen∧∀y,y∈l→Act.OK y:=by
 obtain⟨xs,rfl,hm,hx⟩:=h.slice_inv;obtain⟨l,rfl,hl⟩:=iy (enc:=ib) (P:=Act.OK) fun x hh=>ab1 (hx x hh);exact⟨l,rfl,by simpa using hm,hl⟩
structure Fact where
 kind:Int
 at_:Int
 n:Int
 deriving DecidableEq,Inhabited
def qd (x:Fact):D:=.agg [.int x.kind,.int x.at_,.int x.n]
@[simp] theorem asU (x:Fact):(qd x).cells=[.int x.kind,.int x.at_,.int x.n]:=_root_.id rfl
@[simp] theorem axz (x:Fact):D.agg [.int x.kind,.int x.at_,.int x.n]=qd x:=_root_.id rfl
@[simp] theorem asR (x:Fact):(qd x).c 0=.int x.kind:=_root_.id rfl
@[simp] theorem asS (x:Fact):(qd x).c 1=.int x.at_:=_root_.id rfl
@[simp] theorem asT (x:Fact):(qd x).c 2=.int x.n:=_root_.id rfl
def facts (l:List Fact):D:=.list (l.map qd)
@[simp] theorem awj (l:List Fact):(facts l).l=l.map qd:=_root_.id rfl
@[simp] theorem awi (l:List Fact):(facts l).cells=[facts l]:=_root_.id rfl
abbrev Se:Ty:=.agg [.int .i64,.int .i64,.int .i64]
def Fact.OK (x:Fact):Prop:=aY x.kind∧aY x.at_∧aY x.n
theorem afe {d:D}(h:DTy Se d):∃x:Fact,d=qd x∧x.OK:=by
 obtain⟨ds,rfl,hs⟩:=h.agg_inv;obtain⟨d0,ds,rfl,h0,hs⟩:=hs.cons_inv;obtain⟨d1,ds,rfl,h1,hs⟩:=hs.cons_inv;obtain⟨d2,ds,rfl,h2,hs⟩:=hs.cons_inv;obtain rfl:=hs.nil_inv;obtain⟨n0,rfl,b0⟩:=h0.i64_inv;obtain⟨n1,rfl,b1⟩:=h1.i64_inv;obtain⟨n2,rfl,b2⟩:=h2.i64_inv;exact⟨⟨n0,n1,n2⟩,rfl,⟨b0,b1,b2⟩⟩
theorem aff {d:D}(h:DTy (.slice Se) d):∃l:List Fact,d=facts l∧l.length≤maxLen∧∀y,y∈l→Fact.OK y:=by
 obtain⟨xs,rfl,hm,hx⟩:=h.slice_inv;obtain⟨l,rfl,hl⟩:=iy (enc:=qd) (P:=Fact.OK) fun x hh=>afe (hx x hh);exact⟨l,rfl,by simpa using hm,hl⟩
structure File where
 bill:Bill
 signs:List Sign
 alters:List Alter
 acts:List Act
 facts:List Fact
 deriving Inhabited
def cd (x:File):D:=.agg [.int x.bill.drawer,.int x.bill.drawee,.int x.bill.payee,.int x.bill.sum,.int x.bill.currency,.int x.bill.tenor.kind,.int x.bill.tenor.n,.int x.bill.tenor.unit,.int x.bill.day,.int x.bill.city,.int x.bill.pay,.int x.bill.need,.int x.bill.rate,.int x.bill.flags,.int x.bill.parts,signs x.signs,alters x.alters,acts x.acts,facts x.facts]
@[simp] theorem as3 (x:File):(cd x).cells=[.int x.bill.drawer,.int x.bill.drawee,.int x.bill.payee,.int x.bill.sum,.int x.bill.currency,.int x.bill.tenor.kind,.int x.bill.tenor.n,.int x.bill.tenor.unit,.int x.bill.day,.int x.bill.city,.int x.bill.pay,.int x.bill.need,.int x.bill.rate,.int x.bill.flags,.int x.bill.parts,signs x.signs,alters x.alters,acts x.acts,facts x.facts]:=_root_.id rfl
@[simp] theorem axA (x:File):D.agg [.int x.bill.drawer,.int x.bill.drawee,.int x.bill.payee,.int x.bill.sum,.int x.bill.currency,.int x.bill.tenor.kind,.int x.bill.tenor.n,.int x.bill.tenor.unit,.int x.bill.day,.int x.bill.city,.int x.bill.pay,.int x.bill.need,.int x.bill.rate,.int x.bill.flags,.int x.bill.parts,signs x.signs,alters x.alters,acts x.acts,facts x.facts]=cd x:=_root_.id rfl
@[simp] theorem auH (x:File):gZ 19 (cd x)=cd x:=_root_.id rfl
@[simp] theorem axW (x:File)(a0 a1 a2 a3 a4 a5 a6 a7 a8 a9 mS mT a12 mU mV pO pP pQ pR:D):D.agg (cw [a0,a1,a2,a3,a4,a5,a6,a7,a8,a9,mS,mT,a12,mU,mV,pO,pP,pQ,pR] 0 [.int x.bill.drawer,.int x.bill.drawee,.int x.bill.payee,.int x.bill.sum,.int x.bill.currency,.int x.bill.tenor.kind,.int x.bill.tenor.n,.int x.bill.tenor.unit,.int x.bill.day,.int x.bill.city,.int x.bill.pay,.int x.bill.need,.int x.bill.rate,.int x.bill.flags,.int x.bill.parts,signs x.signs,alters x.alters,acts x.acts,facts x.facts])=cd x:=_root_.id rfl
@[simp] theorem as0 (x:File):(cd x).c 3=.int x.bill.sum:=_root_.id rfl
@[simp] theorem as1 (x:File):(cd x).c 5=.int x.bill.tenor.kind:=_root_.id rfl
@[simp] theorem as2 (x:File):(cd x).c 8=.int x.bill.day:=_root_.id rfl
@[simp] theorem asV (x:File):(cd x).c 14=.int x.bill.parts:=_root_.id rfl
@[simp] theorem asW (x:File):(cd x).c 15=signs x.signs:=_root_.id rfl
@[simp] theorem asX (x:File):(cd x).c 16=alters x.alters:=_root_.id rfl
@[simp] theorem asY (x:File):(cd x).c 17=acts x.acts:=_root_.id rfl
@[simp] theorem asZ (x:File):(cd x).c 18=facts x.facts:=_root_.id rfl
def files (l:List File):D:=.list (l.map cd)
@[simp] theorem awl (l:List File):(files l).l=l.map cd:=_root_.id rfl
abbrev abh:Ty:=.agg [.int .i64,.int .i64,.int .i64,.int .i64,.int .i64,.int .i64,.int .i64,.int .i64,.int .i64,.int .i64,.int .i64,.int .i64,.int .i64,.int .i64,.int .i64,.slice Sm,.slice Sb,.slice Sa,.slice Se]
def File.OK (x:File):Prop:=Bill.OK x.bill∧(x.signs.length≤maxLen∧∀y,y∈x.signs→Sign.OK y)∧(x.alters.length≤maxLen∧∀y,y∈x.alters→Alter.OK y)∧(x.acts.length≤maxLen∧∀y,y∈x.acts→Act.OK y)∧(x.facts.length≤maxLen∧∀y,y∈x.facts→Fact.OK y)
theorem afh {d:D}(h:DTy abh d):∃x:File,d=cd x∧x.OK:=by
 obtain⟨ds,rfl,hs⟩:=h.agg_inv;obtain⟨d0,ds,rfl,h0,hs⟩:=hs.cons_inv;obtain⟨d1,ds,rfl,h1,hs⟩:=hs.cons_inv;obtain⟨d2,ds,rfl,h2,hs⟩:=hs.cons_inv;obtain⟨d3,ds,rfl,h3,hs⟩:=hs.cons_inv;obtain⟨d4,ds,rfl,h4,hs⟩:=hs.cons_inv;obtain⟨d5,ds,rfl,h5,hs⟩:=hs.cons_inv;obtain⟨d6,ds,rfl,h6,hs⟩:=hs.cons_inv;obtain⟨d7,ds,rfl,h7,hs⟩:=hs.cons_inv;obtain⟨d8,ds,rfl,h8,hs⟩:=hs.cons_inv;obtain⟨d9,ds,rfl,h9,hs⟩:=hs.cons_inv;obtain⟨d10,ds,rfl,gd,hs⟩:=hs.cons_inv;obtain⟨d11,ds,rfl,lf,hs⟩:=hs.cons_inv;obtain⟨d12,ds,rfl,A2,hs⟩:=hs.cons_inv;obtain⟨d13,ds,rfl,h13,hs⟩:=hs.cons_inv;obtain⟨d14,ds,rfl,h14,hs⟩:=hs.cons_inv;obtain⟨d15,ds,rfl,FX,hs⟩:=hs.cons_inv;obtain⟨d16,ds,rfl,FY,hs⟩:=hs.cons_inv;obtain⟨d17,ds,rfl,FZ,hs⟩:=hs.cons_inv;obtain⟨d18,ds,rfl,F0,hs⟩:=hs.cons_inv;obtain rfl:=hs.nil_inv;obtain⟨n0,rfl,b0⟩:=h0.i64_inv;obtain⟨n1,rfl,b1⟩:=h1.i64_inv;obtain⟨n2,rfl,b2⟩:=h2.i64_inv;obtain⟨n3,rfl,b3⟩:=h3.i64_inv;obtain⟨n4,rfl,b4⟩:=h4.i64_inv;obtain⟨n5,rfl,b5⟩:=h5.i64_inv;obtain⟨n6,rfl,b6⟩:=h6.i64_inv;obtain⟨n7,rfl,b7⟩:=h7.i64_inv;obtain⟨n8,rfl,b8⟩:=h8.i64_inv;obtain⟨n9,rfl,b9⟩:=h9.i64_inv;obtain⟨n10,rfl,b10⟩:=gd.i64_inv;obtain⟨n11,rfl,b11⟩:=lf.i64_inv;obtain⟨n12,rfl,b12⟩:=A2.i64_inv;obtain⟨n13,rfl,b13⟩:=h13.i64_inv;obtain⟨n14,rfl,b14⟩:=h14.i64_inv;obtain⟨n15,rfl,b15,c15⟩:=aoW FX;obtain⟨n16,rfl,b16,c16⟩:=acb FY;obtain⟨n17,rfl,b17,c17⟩:=ab2 FZ;obtain⟨n18,rfl,b18,c18⟩:=aff F0;exact⟨⟨⟨n0,n1,n2,n3,n4,⟨n5,n6,n7⟩,n8,n9,n10,n11,n12,n13,n14⟩,n15,n16,n17,n18⟩,rfl,⟨⟨b0,b1,b2,b3,b4,⟨b5,b6,b7⟩,b8,b9,b10,b11,b12,b13,b14⟩,⟨b15,c15⟩,⟨b16,c16⟩,⟨b17,c17⟩,⟨b18,c18⟩⟩⟩
theorem afi {d:D}(h:DTy (.slice abh) d):∃l:List File,d=files l∧l.length≤maxLen∧∀y,y∈l→File.OK y:=by
 obtain⟨xs,rfl,hm,hx⟩:=h.slice_inv;obtain⟨l,rfl,hl⟩:=iy (enc:=cd) (P:=File.OK) fun x hh=>afh (hx x hh);exact⟨l,rfl,by simpa using hm,hl⟩
structure Case where
 file:File
 sign:Int
 holder:Int
 defence:Int
 due:Int
 day:Int
 deriving Inhabited
def eK (x:Case):D:=.agg [.int x.file.bill.drawer,.int x.file.bill.drawee,.int x.file.bill.payee,.int x.file.bill.sum,.int x.file.bill.currency,.int x.file.bill.tenor.kind,.int x.file.bill.tenor.n,.int x.file.bill.tenor.unit,.int x.file.bill.day,.int x.file.bill.city,.int x.file.bill.pay,.int x.file.bill.need,.int x.file.bill.rate,.int x.file.bill.flags,.int x.file.bill.parts,signs x.file.signs,alters x.file.alters,acts x.file.acts,facts x.file.facts,.int x.sign,.int x.holder,.int x.defence,.int x.due,.int x.day]
@[simp] theorem asy (x:Case):(eK x).cells=[.int x.file.bill.drawer,.int x.file.bill.drawee,.int x.file.bill.payee,.int x.file.bill.sum,.int x.file.bill.currency,.int x.file.bill.tenor.kind,.int x.file.bill.tenor.n,.int x.file.bill.tenor.unit,.int x.file.bill.day,.int x.file.bill.city,.int x.file.bill.pay,.int x.file.bill.need,.int x.file.bill.rate,.int x.file.bill.flags,.int x.file.bill.parts,signs x.file.signs,alters x.file.alters,acts x.file.acts,facts x.file.facts,.int x.sign,.int x.holder,.int x.defence,.int x.due,.int x.day]:=_root_.id rfl
@[simp] theorem axu (x:Case):D.agg [.int x.file.bill.drawer,.int x.file.bill.drawee,.int x.file.bill.payee,.int x.file.bill.sum,.int x.file.bill.currency,.int x.file.bill.tenor.kind,.int x.file.bill.tenor.n,.int x.file.bill.tenor.unit,.int x.file.bill.day,.int x.file.bill.city,.int x.file.bill.pay,.int x.file.bill.need,.int x.file.bill.rate,.int x.file.bill.flags,.int x.file.bill.parts,signs x.file.signs,alters x.file.alters,acts x.file.acts,facts x.file.facts,.int x.sign,.int x.holder,.int x.defence,.int x.due,.int x.day]=eK x:=_root_.id rfl
@[simp] theorem ab9 (x:Case):gZ 24 (eK x)=eK x:=_root_.id rfl
@[simp] theorem am5 (x:Case)(a0 a1 a2 a3 a4 a5 a6 a7 a8 a9 mS mT a12 mU mV pO pP pQ pR JF a20 a21 a22 JG:D):D.agg (cw [a0,a1,a2,a3,a4,a5,a6,a7,a8,a9,mS,mT,a12,mU,mV,pO,pP,pQ,pR,JF,a20,a21,a22,JG] 0 [.int x.file.bill.drawer,.int x.file.bill.drawee,.int x.file.bill.payee,.int x.file.bill.sum,.int x.file.bill.currency,.int x.file.bill.tenor.kind,.int x.file.bill.tenor.n,.int x.file.bill.tenor.unit,.int x.file.bill.day,.int x.file.bill.city,.int x.file.bill.pay,.int x.file.bill.need,.int x.file.bill.rate,.int x.file.bill.flags,.int x.file.bill.parts,signs x.file.signs,alters x.file.alters,acts x.file.acts,facts x.file.facts,.int x.sign,.int x.holder,.int x.defence,.int x.due,.int x.day])=eK x:=_root_.id rfl
@[simp] theorem asx (x:Case):(eK x).c 9=.int x.file.bill.city:=_root_.id rfl
@[simp] theorem asq (x:Case):(eK x).c 10=.int x.file.bill.pay:=_root_.id rfl
@[simp] theorem asr (x:Case):(eK x).c 15=signs x.file.signs:=_root_.id rfl
@[simp] theorem ass (x:Case):(eK x).c 19=.int x.sign:=_root_.id rfl
@[simp] theorem ast (x:Case):(eK x).c 20=.int x.holder:=_root_.id rfl
@[simp] theorem asu (x:Case):(eK x).c 21=.int x.defence:=_root_.id rfl
@[simp] theorem asv (x:Case):(eK x).c 22=.int x.due:=_root_.id rfl
@[simp] theorem asw (x:Case):(eK x).c 23=.int x.day:=_root_.id rfl
def cases(l:List Case):D:=.list (l.map eK)
structure Cell where
 known:Bool
 n:Int
 deriving DecidableEq,Inhabited
def cM (x:Cell):D:=.agg [.bool x.known,.int x.n]
@[simp] theorem asB (x:Cell):(cM x).cells=[.bool x.known,.int x.n]:=_root_.id rfl
@[simp] theorem axv (x:Cell):D.agg [.bool x.known,.int x.n]=cM x:=_root_.id rfl
@[simp] theorem asz (x:Cell):(cM x).c 0=.bool x.known:=_root_.id rfl
@[simp] theorem asA (x:Cell):(cM x).c 1=.int x.n:=_root_.id rfl
def cells (l:List Cell):D:=.list (l.map cM)
@[simp] theorem au7 (l:List Cell):(cells l).l=l.map cM:=_root_.id rfl
@[simp] theorem au6 (l:List Cell):(cells l).cells=[cells l]:=_root_.id rfl
structure Said where
 cell:Cell
 order:Int
 path:List Int
 err:Int
 deriving Inhabited
def m9 (x:Said):D:=.agg [.bool x.cell.known,.int x.cell.n,.int x.order,ints x.path,.int x.err]
@[simp] theorem atA (x:Said):(m9 x).cells=[.bool x.cell.known,.int x.cell.n,.int x.order,ints x.path,.int x.err]:=_root_.id rfl
@[simp] theorem axI (x:Said):D.agg [.bool x.cell.known,.int x.cell.n,.int x.order,ints x.path,.int x.err]=m9 x:=_root_.id rfl
@[simp] theorem auK (x:Said):gZ 5 (m9 x)=m9 x:=_root_.id rfl
structure Effect where
 sign:Int
 kind:Int
 firm:Int
 binds:Int
 text:Int
 sum:Int
 recourse:Bool
 deriving DecidableEq,Inhabited
def qa (x:Effect):D:=.agg [.int x.sign,.int x.kind,.int x.firm,.int x.binds,.int x.text,.int x.sum,.bool x.recourse]
@[simp] theorem asQ (x:Effect):(qa x).cells=[.int x.sign,.int x.kind,.int x.firm,.int x.binds,.int x.text,.int x.sum,.bool x.recourse]:=_root_.id rfl
@[simp] theorem axy (x:Effect):D.agg [.int x.sign,.int x.kind,.int x.firm,.int x.binds,.int x.text,.int x.sum,.bool x.recourse]=qa x:=_root_.id rfl
@[simp] theorem asM (x:Effect):(qa x).c 1=.int x.kind:=_root_.id rfl
@[simp] theorem asN (x:Effect):(qa x).c 2=.int x.firm:=_root_.id rfl
@[simp] theorem asO (x:Effect):(qa x).c 3=.int x.binds:=_root_.id rfl
@[simp] theorem asP (x:Effect):(qa x).c 6=.bool x.recourse:=_root_.id rfl
def AJ (l:List Effect):D:=.list (l.map qa)
@[simp] theorem avz (l:List Effect):(AJ l).l=l.map qa:=_root_.id rfl
@[simp] theorem ayA (a0 x0:D):cw [a0] 0 [x0]=[x0]:=_root_.id rfl
@[simp] theorem ayB (a0 a1 x0 x1:D):cw [a0,a1] 0 [x0,x1]=[x0,x1]:=_root_.id rfl
@[simp] theorem ayC (a0 a1 a2 x0 x1 x2:D):cw [a0,a1,a2] 0 [x0,x1,x2]=[x0,x1,x2]:=_root_.id rfl
@[simp] theorem ayD (a0 a1 a2 a3 x0 x1 x2 x3:D):cw [a0,a1,a2,a3] 0 [x0,x1,x2,x3]=[x0,x1,x2,x3]:=_root_.id rfl
@[simp] theorem ayE (a0 a1 a2 a3 a4 x0 x1 x2 x3 x4:D):cw [a0,a1,a2,a3,a4] 0 [x0,x1,x2,x3,x4]=[x0,x1,x2,x3,x4]:=_root_.id rfl
@[simp] theorem ayF (a0 a1 a2 a3 a4 a5 x0 x1 x2 x3 x4 x5:D):cw [a0,a1,a2,a3,a4,a5] 0 [x0,x1,x2,x3,x4,x5]=[x0,x1,x2,x3,x4,x5]:=_root_.id rfl
@[simp] theorem ayG (a0 a1 a2 a3 a4 a5 a6 x0 x1 x2 x3 x4 x5 x6:D):cw [a0,a1,a2,a3,a4,a5,a6] 0 [x0,x1,x2,x3,x4,x5,x6]=[x0,x1,x2,x3,x4,x5,x6]:=_root_.id rfl
@[simp] theorem ayH (a0 a1 a2 a3 a4 a5 a6 a7 a8 x0 x1 x2 x3 x4 x5 x6 x7 x8:D):cw [a0,a1,a2,a3,a4,a5,a6,a7,a8] 0 [x0,x1,x2,x3,x4,x5,x6,x7,x8]=[x0,x1,x2,x3,x4,x5,x6,x7,x8]:=_root_.id rfl
end Rm
