/-
  Shared texts of this claim.
-/
import Derived.Test.YtbagcfebdgiihaaGreatDoorProg
import Derived.Test.YtbagcfebdgiihaaGreatDoorSAI
import Derived.Shelf.Sort.Plain
import Derived.Shelf.Slices.Clone
import Derived.Shelf.Slices.CompactI
import Derived.Shelf.Slices.In.SortNone
import Derived.Sort.OwnSortedInts
set_option linter.unusedVariables false
set_option maxRecDepth 100000
noncomputable section
namespace Rm
open Go Go.Proofs Cx
abbrev I:Ty:=.int .i64
abbrev Y0:Ty:=.agg [.str,I,I,(.slice I),(.slice I),(.slice I)]
abbrev Y1:Ty:=.agg [I]
abbrev Y2:Ty:=.agg [.str,I,I]
abbrev Y3:Ty:=.agg [I,I,.bool]
abbrev Y4:Ty:=.agg [I,I,I,(.slice .trm)]
abbrev Y5:Ty:=.agg [.str,.bool,(.slice Y3),(.slice Y4)]
abbrev Y6:Ty:=.agg [I,I,I]
abbrev Y7:Ty:=.agg [I,I,I,I,I]
abbrev Y8:Ty:=.agg [(.slice .str),(.slice Y0),(.slice Y1),(.slice Y2),(.slice Y5),(.slice Y6),(.slice Y7),(.slice Y6)]
abbrev Y9:Ty:=.agg [I,I,I,I,I,I,I,I,I]
abbrev qk:Ty:=.agg [I,I]
abbrev eP:Ty:=.agg [I,I,I,I,I,I,I,I,I,I,I,I,I,I,I,(.slice Y9),(.slice qk),(.slice Y9),(.slice Y6)]
abbrev ql:Ty:=.agg [I,(.slice I)]
abbrev Th:Ty:=.agg [I,I,I,I,I,I,.bool]
abbrev Af:Ty:=.agg [.bool,I,I,(.slice I),I]
abbrev oN:Ty:=.agg [I,I,I,I,I,I,I,I,I,I,I,I,I,I,I,(.slice Y9),(.slice qk),(.slice Y9),(.slice Y6),I,I,I,I,I]
abbrev Em:Ty:=.agg [I,I,I,I,I,I,I,I,I,I,I,I,I,I,I]
abbrev En:Ty:=.agg [(.slice .str),(.slice Y0),(.slice Y1),(.slice Y2),(.slice Y5),(.slice Y6),(.slice Y7),(.slice Y6),I,I,I,I,I,I,I,I,I,I,I,I,I,I,I,I,I,(.slice Y9),(.slice qk),(.slice Y9),(.slice Y6),I,I]
abbrev j4:Ty:=.agg [.bool,I]
abbrev qm:Ty:=.agg [I,I,(.slice .trm)]
abbrev Ti:Ty:=.agg [(.slice j4)]
abbrev Y21:Ty:=.agg [(.slice I),I]
def tD:List (Nat×Sig):=[
 (4,⟨[Y8,I,eP,I,(.int .u64),(.slice I)],.bool,.dat⟩),
 (5,⟨[Y8,I,(.slice eP),I],.bool,.dat⟩),
 (12,⟨[],.bool,.dat⟩),
 (13,⟨[Y8,eP],.bool,.dat⟩),
 (14,⟨[Y8],I,.dat⟩),
 (15,⟨[eP],.bool,.dat⟩),
 (16,⟨[Y8,eP],I,.dat⟩),
 (17,⟨[Y8,I,(.slice eP),I],(.slice ql),.dat⟩),
 (18,⟨[(.slice ql),(.slice I)],I,.dat⟩),
 (19,⟨[Y8],.bool,.dat⟩),
 (20,⟨[(.slice ql)],.bool,.dat⟩),
 (21,⟨[Y8,I,eP,I],(.slice Th),.dat⟩),
 (22,⟨[Y8,I],(.slice I),.dat⟩),
 (29,⟨[eP,I],eP,.dat⟩),
 (31,⟨[Y8,I,eP,I],I,.dat⟩),
 (32,⟨[Af],I,.dat⟩),
 (33,⟨[Y8,I,I,oN],Af,.dat⟩),
 (35,⟨[Af],I,.dat⟩),
 (45,⟨[],(.slice ql),.dat⟩),
 (46,⟨[(.slice ql),I,I],(.tup [I,(.slice I),I]),.dat⟩),
 (47,⟨[(.slice I),(.slice I)],.bool,.dat⟩),
 (48,⟨[(.slice ql),I],(.slice I),.dat⟩),
 (49,⟨[(.slice ql),(.slice I)],(.slice I),.dat⟩),
 (50,⟨[eP],.bool,.dat⟩),
 (51,⟨[Y5],.bool,.dat⟩),
 (52,⟨[Y8],(.tup [(.slice .str),(.slice .str),(.slice .str)]),.dat⟩),
 (53,⟨[(.slice .str),I,(.fn [I] .bool)],I,.dat⟩),
 (54,⟨[I],.bool,.dat⟩),
 (55,⟨[I,(.ref Y8)],.bool,.dat⟩),
 (56,⟨[Y8,Y0],.bool,.dat⟩),
 (57,⟨[I,I],.bool,.dat⟩),
 (58,⟨[I,(.ref Y8)],.bool,.dat⟩),
 (59,⟨[I,(.ref Y8)],.bool,.dat⟩),
 (60,⟨[Y5],.bool,.dat⟩),
 (61,⟨[Y8],I,.dat⟩),
 (62,⟨[Y8],I,.dat⟩),
 (63,⟨[Y8,Em],I,.dat⟩),
 (64,⟨[Y8,eP,I],I,.dat⟩),
 (65,⟨[I,I,I],.bool,.dat⟩),
 (66,⟨[Y8,eP],I,.dat⟩),
 (67,⟨[eP],I,.dat⟩),
 (68,⟨[(.slice I)],(.tup []),(.ob [(.obj 0 0)] [(0,(.row 3 I))])⟩),
 (69,⟨[(.slice I)],(.slice I),(.ob [(.obj 0 0)] [(0,(.row 3 I)),(1,.tr)])⟩),
 (70,⟨[(.slice ql),(.slice (.int .u32)),(.int .u32)],I,.dat⟩),
 (71,⟨[(.slice ql)],(.slice (.int .u32)),.dat⟩),
 (72,⟨[(.slice I)],(.int .u32),.dat⟩),
 (73,⟨[Y8,I,eP,I],En,.dat⟩),
 (74,⟨[En,I],Th,.dat⟩),
 (80,⟨[I,I],.bool,.dat⟩),
 (81,⟨[Y8,I,I,eP,I],Af,.dat⟩),
 (82,⟨[Y8,Em,I,I],(.tup [I,I]),.dat⟩),
 (83,⟨[eP],I,.dat⟩),
 (84,⟨[Y8,I,I,oN],(.tup [Af,(.slice j4)]),.dat⟩),
 (85,⟨[Y5,I,(.slice j4)],(.tup [j4,I]),.dat⟩),
 (100,⟨[(.slice I)],(.slice I),(.row 3 I)⟩),
 (101,⟨[qm],.bool,.dat⟩),
 (102,⟨[(.slice .str),I],I,.dat⟩),
 (103,⟨[(.slice I),I,I],.bool,.dat⟩),
 (104,⟨[I,I],.bool,.dat⟩),
 (105,⟨[Em],.bool,.dat⟩),
 (106,⟨[Y8,I,I],(.tup [I,I]),.dat⟩),
 (107,⟨[Y8,eP,I],.bool,.dat⟩),
 (108,⟨[Y8,eP,Y9],.bool,.dat⟩),
 (109,⟨[(.slice I)],I,.dat⟩),
 (110,⟨[I,I],I,.dat⟩),
 (113,⟨[eP,I,I],.bool,.dat⟩),
 (114,⟨[(.slice I)],I,.dat⟩),
 (115,⟨[En,I,I],I,.dat⟩),
 (116,⟨[En,I],(.tup [I,I]),.dat⟩),
 (120,⟨[Y8,I],.bool,.dat⟩),
 (121,⟨[I],.bool,.dat⟩),
 (122,⟨[Y6],.bool,.dat⟩),
 (123,⟨[Y8,Em,I],(.tup [I,I]),.dat⟩),
 (124,⟨[Y8,I,I],(.tup [I,I]),.dat⟩),
 (125,⟨[(.slice I)],I,.dat⟩),
 (126,⟨[Y8,oN],(.tup [oN,(.slice j4)]),.dat⟩),
 (127,⟨[I],(.tup [I,.bool]),.dat⟩),
 (128,⟨[Y8,I,oN],(.nsl I),.dat⟩),
 (129,⟨[Y8,I,I,(.slice I)],(.tup [(.slice I),I]),.dat⟩),
 (130,⟨[Y5,I],(.tup [qm,I]),.dat⟩),
 (131,⟨[qm,(.slice j4)],j4,.dat⟩),
 (134,⟨[(.int .u64),(.int .u64)],(.tup [(.int .u64),(.int .u64)]),.dat⟩),
 (159,⟨[qm,I,I],I,.dat⟩),
 (160,⟨[.str],.bool,.dat⟩),
 (161,⟨[(.slice .str),.str],.bool,.dat⟩),
 (162,⟨[eP,I,(.slice I)],.bool,.dat⟩),
 (163,⟨[eP,I,I],.bool,.dat⟩),
 (164,⟨[I],.bool,.dat⟩),
 (176,⟨[eP,I],(.map I .bool),.dat⟩),
 (177,⟨[eP,I],I,.dat⟩),
 (180,⟨[I,Y6],(.tup [I,I]),.dat⟩),
 (181,⟨[Y8,I],I,.dat⟩),
 (182,⟨[Y8,I,I],I,.dat⟩),
 (183,⟨[Y0,I],(.tup [I,I]),.dat⟩),
 (184,⟨[Y8,oN],(.slice j4),.dat⟩),
 (185,⟨[(.slice I),I],.bool,.dat⟩),
 (186,⟨[Y8,I,I,(.slice I)],.bool,.dat⟩),
 (187,⟨[Y8,I,I,(.slice I)],(.tup [I,.bool]),.dat⟩),
 (188,⟨[(.slice Y4),(.fn [Y4] .bool)],I,.dat⟩),
 (189,⟨[Y4,(.ref I)],.bool,.dat⟩),
 (190,⟨[qm],(.tup [I,I]),.dat⟩),
 (191,⟨[Ti,qm],(.tup [j4,(.slice I)]),.dat⟩),
 (208,⟨[(.slice .str),.str],I,.dat⟩),
 (214,⟨[I,I],(.tup [I,I]),.dat⟩),
 (215,⟨[I],.bool,.dat⟩),
 (216,⟨[Y0,I,I],(.fn [(.fn [I] .bool)] (.tup [])),.dat⟩),
 (217,⟨[(.slice qk),(.fn [qk] .bool)],.bool,.dat⟩),
 (218,⟨[qk,(.ref oN)],.bool,.dat⟩),
 (219,⟨[.bool],j4,.dat⟩),
 (220,⟨[eP,I,I],j4,.dat⟩),
 (221,⟨[(.slice I),I],I,.dat⟩),
 (222,⟨[(.slice I),(.fn [I] .bool)],.bool,.dat⟩),
 (223,⟨[I,(.ref I)],.bool,.dat⟩),
 (224,⟨[qm,I],I,.dat⟩),
 (225,⟨[qm],(.tup [I,I]),.dat⟩),
 (226,⟨[Ti,I],j4,.dat⟩),
 (227,⟨[I,(.slice j4)],j4,.dat⟩),
 (228,⟨[(.slice (.slice I))],(.slice I),.dat⟩),
 (241,⟨[I],(.tup [I,I,I]),.dat⟩),
 (242,⟨[I,I,I],(.tup [I,I]),.dat⟩),
 (243,⟨[I,I],I,.dat⟩),
 (245,⟨[Y0,I],.bool,.dat⟩),
 (246,⟨[(.slice qk),(.fn [qk] .bool)],I,.dat⟩),
 (247,⟨[(.slice I),(.fn [I] .bool)],I,.dat⟩),
 (248,⟨[qm],(.tup [I,I]),.dat⟩),
 (249,⟨[I],Y21,.dat⟩),
 (250,⟨[I],(.tup [I,.bool]),.dat⟩),
 (251,⟨[.bool],j4,.dat⟩),
 (252,⟨[I],I,.dat⟩),
 (253,⟨[I,I,I],I,.dat⟩),
 (254,⟨[.nils .bool,I],(.slice I),(.row 3 I)⟩),
 (268,⟨[I,I,I],I,.dat⟩),
 (269,⟨[I,I],I,.dat⟩)]
def KE:List (Nat×CSig):=[
 (54,⟨[],[I],.bool⟩),
 (55,⟨[(.ref Y8)],[I],.bool⟩),
 (58,⟨[(.ref Y8)],[I],.bool⟩),
 (59,⟨[(.ref Y8)],[I],.bool⟩),
 (189,⟨[(.ref I)],[Y4],.bool⟩),
 (218,⟨[(.ref oN)],[qk],.bool⟩),
 (223,⟨[(.ref I)],[I],.bool⟩),
 (244,⟨[(.ref I),(.ref I),(.ref Y0)],[(.fn [I] .bool)],(.tup [])⟩)]
def ctx:Ctx:={P:=Tryz.prog,cap:=bu KE,sig:=bu tD,amn:=fun _=>none,glob:=Qj 0 [6,7,10,12,13,14,15,16,20,21]}
abbrev I5 (i:Nat):Sig:=(bu tD i).getD default
def cF (a b:List Nat)(f:Func)(i:Nat)(l:List Nat):Option PC:=kG {ctx with fr:=a,nh:=b} f (I5 i) l
theorem ba {o:Option PC}{t:PT}{l:List (Shp×PT)}(h:o.map told=some (t,l)):tree (ae o)=t:=bO (F:=fun _=>(t,l)) h
theorem av (o:Option PC){p:PT×List (Shp×PT)}(h:o.map told=some p):o=some (ae o):=apH (F:=fun _=>p) h
theorem aB (l a b:List Nat){f:Nat}{fn:Func}{c:PC}(h0:ctx.P.funcs[f]?=some fn)(h1:ctx.sig f=some (I5 f))(h2:kG {ctx with fr:=a,nh:=b} fn (I5 f) l=some c):∃fn s ids fr nh,ctx.P.funcs[f]?=some fn∧ctx.sig f=some s∧kG {ctx with fr:=fr,nh:=nh} fn s ids=some c:=⟨fn,I5 f,l,a,b,h0,h1,h2⟩
abbrev vM:PE:=.ai .quo .i64 (bH (aG (bH (.ai .rem .i64 (aG r0 (pi 730425)) (pi 146097)) (.ai .quo .i64 (.ai .rem .i64 (aG r0 (pi 730425)) (pi 146097)) (pi 1460))) (.ai .quo .i64 (.ai .rem .i64 (aG r0 (pi 730425)) (pi 146097)) (pi 36524))) (.ai .quo .i64 (.ai .rem .i64 (aG r0 (pi 730425)) (pi 146097)) (pi 146096))) (pi 365)
abbrev pP:PE:=.con (.agg [(.int 0),(.int 0),(.int 0),(.int 0),(.int 0),(.int 0),(.int 0),(.int 0),(.int 0),(.int 0),(.int 0),(.int 0),(.int 0),(.int 0),(.int 0),(.list []),(.list []),(.list []),(.list [])])
abbrev fq:PE:=.con (.agg [(.bool false),(.int 0)])
abbrev H7:PE:=.ai .quo .i64 (aG (.ai .mul .i64 (pi 5) (bH (.ai .rem .i64 (aG r0 (pi 730425)) (pi 146097)) (bH (aG (.ai .mul .i64 (pi 365) vM) (.ai .quo .i64 vM (pi 4))) (.ai .quo .i64 vM (pi 100))))) (pi 2)) (pi 153)
abbrev pQ:PE:=.deref (.con (.ref (.agg [(.int 6),(.int 7),(.int 10),(.int 12),(.int 13),(.int 14),(.int 15),(.int 16),(.int 20),(.int 21)])))
abbrev jU:PE:=.setc z3 0 (.mk [(pc (.mk [r0]) 5),(pc (.mk [r0]) 6),(pc (.mk [r0]) 7)])
abbrev Ia:PE:=.put (.put (.put (.put (.con (.map [])) (pi 7) (aP (.ai .and .i64 (pc o6 13) (pi 1)) (pi 0))) (pi 8) (peq (pc o6 2) (pi (-1)))) (pi 9) (aP (.ai .and .i64 (pc o6 13) (pi 4)) (pi 0))) (pi 10) (aP (.ai .and .i64 (pc o6 13) (pi 2)) (pi 0))
abbrev O0:PE:=.mk [(pc (.mk [r0]) 10),(pc (.mk [r0]) 11),(pc (.mk [r0]) 12),(pc (.mk [r0]) 13),(pc (.mk [r0]) 14),(pc (.mk [r0]) 15),(pc (.mk [r0]) 16),(pc (.mk [r0]) 17),(pc (.mk [r0]) 18),(pc (.mk [r0]) 19),(pc (.mk [r0]) 20),(pc (.mk [r0]) 21),(pc (.mk [r0]) 22),(pc (.mk [r0]) 23),(pc (.mk [r0]) 24),(pc (.mk [r0]) 25),(pc (.mk [r0]) 26),(pc (.mk [r0]) 27),(pc (.mk [r0]) 28)]
abbrev tl:PE:=.setc (.con (.agg [(.int 0),(.int 0),(.int 0),(.int 0),(.int 0),(.int 0),(.bool false)])) 0 (pn mU jW)
abbrev kV:PE:=.con (.agg [(.int 0),(.int 0),(.list [])])
abbrev OQ:PE:=.con (.agg [(.list []),(.list []),(.list []),(.list []),(.list []),(.list []),(.list []),(.list []),(.int 0),(.int 0),(.int 0),(.int 0),(.int 0),(.int 0),(.int 0),(.int 0),(.int 0),(.int 0),(.int 0),(.int 0),(.int 0),(.int 0),(.int 0),(.int 0),(.int 0),(.list []),(.list []),(.list []),(.list []),(.int 0),(.int 0)])
abbrev cn:PE:=pi 4294967296
abbrev ku:PE:=.con (.agg [(.list []),(.int 0)])
abbrev mR:PE:=.setc z9 0 (pn (pc (.mk [r1]) 15) r2)
abbrev za:PE:=.mk [(pc (.setc fq 0 de) 0),(pc (.setc fq 0 de) 1)]
abbrev zb:PE:=.setc z9 0 (pn (pc (.mk [r2]) 15) (pc (.mk [r2]) 19))
abbrev iU:PE:=.setc (.mk [r3]) 18 pL
abbrev OR:PE:=.put (.put (.put (.con (.map [])) (pi 0) (pc o6 3)) (pi 1) (pc o6 14)) (pi 2) (pc o6 5)
abbrev H4:PE:=.pick (.pick (peq (.tget oq 0) (pi 0)) (pc bX 0) pF) (.setc bX 1 (.mn (.mx (pc bX 1) (pi 0)) (pi 20000))) bX
abbrev CQ:PE:=.mk [(pc (.setc o4 0 (.mk [pF,(pi 0)])) 0),(pc (.setc o4 0 (.mk [pF,(pi 0)])) 1)]
abbrev zc:PE:=.con (.agg [(.bool false),(.int 0),(.int 0),(.list []),(.int 0)])
abbrev H5:PE:=.con (.agg [(.int 0),(.int 0),(.bool false)])
abbrev ZA:PE:=.ai .add .u64 (.ai .mul .u64 (.ai .shr .u64 r0 (.con (.v (.int .u64 32)))) (.ai .and .u64 r1 (.con (.v (.int .u64 4294967295))))) (.ai .shr .u64 (.ai .mul .u64 (.ai .and .u64 r0 (.con (.v (.int .u64 4294967295)))) (.ai .and .u64 r1 (.con (.v (.int .u64 4294967295))))) (.con (.v (.int .u64 32))))
abbrev vN:PE:=.setc (.setc bX 3 (.tget CW 0)) 4 (.tget CW 1)
abbrev zd:PE:=.setc (.con (.agg [(.int 0),(.list [])])) 0 (pn bC bU)
abbrev H6:PE:=aG (bH (aG (.ai .mul .i64 (pi 12) (.tget dJ 0)) (.tget dJ 1)) (pi 1)) r1
abbrev ZB:PE:=.con (.agg [(.int 0),(.int 0),(.int 0),(.int 0),(.int 0),(.int 0),(.int 0),(.int 0),(.int 0),(.int 0),(.int 0),(.int 0),(.int 0),(.int 0),(.int 0),(.list []),(.list []),(.list []),(.list []),(.int 0),(.int 0),(.int 0),(.int 0),(.int 0)])
abbrev vO:PE:=pc (.mk [r0]) 2
abbrev kW:PE:=aD 8 (.mk [r0])
abbrev OS:PE:=.mk [(pc (.setc o4 0 (.mk [(pi 0),(pi 0),pL])) 0),(pc (.setc o4 0 (.mk [(pi 0),(pi 0),pL])) 1),pL]
abbrev oe:PE:=pc (pn bx (pi 0)) 1
abbrev kX:PE:=pc (.mk [r0]) 0
abbrev ze:PE:=.setc z3 0 (pn bU bD)
abbrev mS:PE:=pc (.mk [r0]) 15
abbrev ZC:PE:=.pick (.pick (peq (.tget dR 0) (.con (.v (.int .u64 0)))) (ah (.tget dR 1) (.con (.v (.int .u64 1099511627776)))) pF) (.conv .i64 (.tget dR 1)) (pi 1099511627776)
abbrev OT:PE:=aD 5 (.setc o8 0 (.mk [(pc bX 0),(pc bX 1),(pc bX 2),(.o 16394),(pc bX 4)]))
abbrev OU:PE:=.pick (peq (pc (pn bx bR) 3) (pi 1)) (peq (pc (pn bx bR) 2) (pn dR fu)) pF
abbrev mT:PE:=.llen (pc o3 2)
abbrev ZD:PE:=.pick (.pick (.pick (ah (pc zb 2) (pi 0)) pT (cg (pc zb 2) (.llen (pc (.mk [r0]) 3)))) pT (ah r1 (pi 0))) pT (cg r1 (.llen (pc (.mk [r0]) 4)))
abbrev OV:PE:=.put (.con (.map [])) (pi 7) (aP (.ai .and .i64 (pc o6 13) (pi 1)) (pi 0))
abbrev CR:PE:=.setc z9 0 (pn (pc (.mk [r0]) 25) r1)
abbrev ZE:PE:=.app o2 (.lst [(pc (.setc (.con (.agg [(.v (.string ⟨#[]⟩)),(.int 0),(.int 0),(.list []),(.list []),(.list [])])) 0 (pn bU bD)) 0)])
abbrev og:PE:=aG r8 (pi 1)
abbrev CS:PE:=bH (pi 2) (pc (pn o7 (pi 0)) 1)
abbrev H8:PE:=.setc kV 0 (.sub (pn (pc o2 3) dJ) 1 3)
abbrev H9:PE:=.pick (ah r1 (pi 3)) (bH r0 (pi 1)) r0
abbrev ZF:PE:=.app o4 (.lst [(pc (.setc (.con (.agg [(.v (.string ⟨#[]⟩)),(.bool false),(.list []),(.list [])])) 0 (pn ky rC)) 0)])
abbrev zf:PE:=.con (.v (.int .u64 32))
abbrev vP:PE:=pc (pn dt (pi 0)) 1
abbrev ru:PE:=pc (.mk [r0]) 1
abbrev ZG:PE:=.put (.put (.put Ia (pi 11) (aP O4 O5)) (pi 12) cK) (pi 13) (aP (.ai .and .i64 (pc o8 8) (pi 1)) (pi 0))
abbrev oh:PE:=pn r1 (pi 1)
abbrev OW:PE:=.put (.put OR (pi 3) (pc o6 12)) (pi 4) (pc o8 0)
abbrev ZH:PE:=.pick (bh (.llen (pc (pn (pc o1 1) r3) 4)) (pi 70)) pT (bh (.llen (pc (pn (pc o1 1) r3) 5)) (pi 210))
abbrev OX:PE:=.con (.agg [(.v (.string ⟨#[]⟩)),(.int 0),(.int 0)])
abbrev om:PE:=ah bD cK
abbrev oo:PE:=ah bU bz
abbrev CT:PE:=.setc H5 0 (pn dJ jV)
abbrev ZI:PE:=.app o4 (.lst [(pc (.setc (.con (.agg [(.int 0),(.int 0),(.int 0),(.list [])])) 0 (pn de mU)) 0)])
abbrev td:PE:=.llen (pc o4 2)
abbrev tg:PE:=.llen (pc o1 4)
abbrev th:PE:=.llen (pc o1 1)
abbrev ZJ:PE:=.an (.cb .eql (pc (pn r1 (pi 0)) 0) (pc za 0)) (.an (peq (pc (pn r1 (pi 0)) 1) (pc za 1)) pT)
abbrev ZK:PE:=.app (.o 69637) (.lst [(.mk [(pc (.setc z2 0 (pn pY ou)) 0),(pc (.setc z2 0 (pn pY ou)) 1)])])
abbrev vQ:PE:=pc (pn bz bF) 1
abbrev OY:PE:=.setc o4 0 (.mk [(pc o9 0),(pc o9 1),(pc o9 2)])
abbrev OZ:PE:=.setc (.setc o6 4 (.tget pX 0)) 5 (.tget pX 1)
abbrev ZL:PE:=.pick (.nt (.nt (.an (.an bD pT) (.nt pF)))) (.app (.o 1000) (.lst [(.tup [r5])])) (.o 1000)
abbrev vR:PE:=pi 1099511627776
abbrev ZM:PE:=.pick (bh (aG H7 (pi 3)) (pi 12)) (bH (aG H7 (pi 3)) (pi 12)) (aG H7 (pi 3))
abbrev pR:PE:=.llen vO
abbrev ZN:PE:=.setc o4 0 (.mk [(pc (.setc fq 0 (.tget fu 0)) 0),(pc (.setc fq 0 (.tget fu 0)) 1)])
abbrev CU:PE:=.setc z9 0 (pn Z2 iV)
abbrev Ib:PE:=.setc fq 0 (.mk [pT,(pi 1)])
abbrev Ic:PE:=.setc fq 0 (.mk [pT,(pi 0)])
abbrev Ie:PE:=bH (.llen (pc o3 3)) (pi 1)
abbrev vS:PE:=aG bD (pi 1)
abbrev ZO:PE:=.pick (.pick (peq (pc ze 0) r1) (bB (pc ze 1) r2) pF) (bB r2 (pc ze 2)) pF
abbrev vT:PE:=.mk [pF,(pi 0)]
abbrev CV:PE:=.con (.agg [(.int 0)])
abbrev ZP:PE:=aG vM (.ai .mul .i64 (pi 400) (.ai .quo .i64 (aG r0 (pi 730425)) (pi 146097)))
abbrev pS:PE:=pn bD bx
abbrev ZQ:PE:=.con (.agg [(.int 0),(.int 0),(.int 0),(.int 0),(.int 0),(.int 0),(.bool false)])
abbrev zg:PE:=pc (.mk [r0]) 18
abbrev rv:PE:=pn jV de
abbrev ry:PE:=pn bC bU
abbrev tj:PE:=ah bz bC
abbrev zh:PE:=pc (.mk [r0]) 5
abbrev zi:PE:=aG bU (pi 1)
abbrev zj:PE:=aG bz (pi 1)
abbrev O1:PE:=.pick (cg r0 (pi 0)) (ah r0 r1) pF
abbrev zk:PE:=.llen (pc o1 3)
abbrev ZR:PE:=.setc o4 0 (.mk [(pc (.setc fq 0 Il) 0),(pc (.setc fq 0 Il) 1)])
abbrev ZS:PE:=.setc o4 0 (.mk [(pc (.setc fq 0 ib) 0),(pc (.setc fq 0 ib) 1)])
abbrev ZT:PE:=.pick (cg bD (pi 0)) (peq (pn l7 bD) (aG (bH r1 bC) bD)) pF
abbrev ZU:PE:=.setc ku 0 (.mk [(.lst [(pi 1),(pi (-1)),(pi (-1))]),(pi (-1))])
abbrev ZV:PE:=.pick (aP (pc o3 22) (pi (-1))) (bH (pc o8 6) (pc o3 22)) (pi 0)
abbrev O2:PE:=.ai .rem .i64 (pn r8 bC) (pi 100)
abbrev ZW:PE:=.app (.o 77829) (.lst [(.mk [(pc y1 0),(pc y1 1),(pc y1 2)])])
end Rm
set_option linter.unusedSimpArgs false
namespace Rm
open Go Cx
def vj (x:Int):List Int→List Int
 |[]=>[x]
 |y::l=>if x≤y then x::y::l else y::vj x l
def eX:List Int→List Int
 |[]=>[]
 |x::l=>vj x (eX l)
theorem MV (x:Int):∀l,(vj x l).Perm (x::l)
 |[]=>.refl _
 |y::l=>by
  unfold vj;split
  ·exact .refl _
  ·exact((MV x l).cons y).trans (.swap x y l)
theorem Cq:∀l,(eX l).Perm l
 |[]=>.refl _
 |x::l=>(MV x _).trans ((Cq l).cons x)
theorem Wu (x:Int):∀{l:List Int},l.Pairwise (·≤·)→(vj x l).Pairwise (·≤·)
 |[],_=>by simp[vj]
 |y::l,h=>by
  have h':=Ei.1 h;unfold vj;split
  ·rename_i MS;refine Ei.2 ⟨fun z hz=>?_,h⟩;rcases cG.1 hz with rfl|hz
   ·exact MS
   ·exact Int.le_trans MS (h'.1 z hz)
  ·rename_i MS;refine Ei.2 ⟨fun z hz=>?_,Wu x h'.2⟩;rcases cG.1 ((MV x l).mem_iff.1 hz) with rfl|hz
   ·omega
   ·exact h'.1 z hz
theorem Hc:∀l,(eX l).Pairwise (·≤·)
 |[]=>.nil
 |x::l=>Wu x (Hc l)
theorem ajN (l:List Int):(l.mergeSort fun x y=>decide (x≤y))=eX l:=by
 have h1:(l.mergeSort fun x y=>decide (x≤y)).Pairwise (fun x y=>decide (x≤y)=true):=List.pairwise_mergeSort (fun a b c h1 h2=>by simp at*;omega) (fun a b=>by simp;omega) l;refine List.Perm.eq_of_pairwise (le:=(·≤·)) (fun a b _ _ h1 h2=>by omega) (h1.imp fun h=>by simpa using h) (Hc l) ((List.mergeSort_perm l _).trans (Cq l).symm)
theorem MW (l:List Int):(eX l).length=l.length:=(Cq l).length_eq
theorem ajO {l:List Int}{x:Int}:x∈eX l↔x∈l:=(Cq l).mem_iff
def nE (l:List Int)(k:Nat):List Int:=((List.range k).filter fun j=>decide (j=0∨l.getD j 0≠l.getD (j-1) 0)).map fun j=>l.getD j 0
def je (l:List Int):List Int:=nE l l.length
theorem adU (l:List Int)(k:Nat):nE l (k+1)=nE l k++if k=0∨l.getD k 0≠l.getD (k-1) 0 then[l.getD k 0] else[]:=by
 unfold nE;rw[JI,Ed,lx]
 congr 1
 have key:∀(p:Nat→Bool),List.filter p [k]=if p k then[k] else[]:=fun p=>by
  cases h:p k<;>simp[List.filter,h]
 rw[key];by_cases h:k=0∨l.getD k 0≠l.getD (k-1) 0
 ·rw[if_pos h,if_pos (decide_eq_true h)];rfl
 ·rw[if_neg h,if_neg (by simpa using h)];rfl
theorem KP (l:List Int)(hs:l.Pairwise (·≤·)):∀k,k≤l.length→(∀x,x∈nE l k↔∃j,j<k∧l.getD j 0=x)∧(nE l k).Pairwise (·<·)
 |0,_=>by simp[nE]
 |k+1,hk=>by
  obtain⟨h1,h2⟩:=KP l hs k (by omega)
  have hle:∀i j,i≤j→j<l.length→l.getD i 0≤l.getD j 0:=fun i j db hj=>by
   have hi:i<l.length:=by omega
   rw[aI,aI,be hi,be hj];by_cases e:i=j
   ·subst e;exact Ea _
   ·exact JF.1 hs i j hi hj (by omega)
  rw[adU];by_cases hc:k=0∨l.getD k 0≠l.getD (k-1) 0
  ·rw[if_pos hc];refine⟨fun x=>?_,S7.2 ⟨h2,by simp,fun a ha b hb=>?_⟩⟩
   ·rw[dg,h1,tU];constructor
    ·rintro(⟨j,hj,e⟩|e)
     ·exact⟨j,by omega,e⟩
     ·exact⟨k,by omega,e.symm⟩
    ·rintro⟨j,hj,e⟩;by_cases nP:j=k
     ·subst nP;exact .inr e.symm
     ·exact .inl ⟨j,by omega,e⟩
   ·rw[tU] at hb;subst hb;obtain⟨j,hj,rfl⟩:=(h1 a).1 ha;have a1:=hle j (k-1) (by omega) (by omega);have a2:=hle (k-1) k (by omega) (by omega);rcases hc with hc|hc<;>omega
  ·rw[if_neg hc,rL];refine⟨fun x=>?_,h2⟩;rw[h1];constructor
   ·rintro⟨j,hj,e⟩;exact⟨j,by omega,e⟩
   ·rintro⟨j,hj,e⟩;by_cases nP:j=k
    ·subst nP;exact⟨j-1,by omega,by rw[←e];omega⟩
    ·exact⟨j,by omega,e⟩
theorem adV {l:List Int}(hs:l.Pairwise (·≤·)){x:Int}:x∈je l↔x∈l:=by
 rw[je,(KP l hs l.length (aU _)).1,List.mem_iff_getElem];constructor
 ·rintro⟨j,hj,e⟩;exact⟨j,hj,by rw[←e,aI,be hj];rfl⟩
 ·rintro⟨j,hj,e⟩;exact⟨j,hj,by rw[←e,aI,be hj];rfl⟩
theorem adW {l:List Int}(hs:l.Pairwise (·≤·)):(je l).Pairwise (·<·):=(KP l hs l.length (aU _)).2
theorem adT (l:List Int)(k:Nat):(nE l k).length≤k:=by
 unfold nE;rw[eN];exact gy (qh _ _) (by simp)
end Rm
namespace Go.Proofs
open Go.Shelf
def Tryz.lays189_ren:Go.Shelf.Ren:=⟨fun|189=>68|125=>112|257=>111|128=>174|129=>175|294=>165|295=>166|296=>167|297=>168|298=>169|299=>170|216=>171|300=>172|301=>173|328=>209|329=>210|330=>211|331=>212|332=>213|215=>164|343=>240|n=>n,fun|28=>53|3=>3|46=>186|0=>0|51=>137|53=>52|4=>4|183=>226|182=>225|131=>200|5=>5|9=>9|218=>257|222=>261|228=>282|229=>188|n=>n,fun|n=>n⟩
theorem Tryz.lays189:Go.Proofs.Lays.n189 Tryz.prog Tryz.lays189_ren:={
 mixed:=by kernel_rfl
 f125:=Tryz.func112.trans (congrArg some (by kernel_rfl))
 f128:=Tryz.func174.trans (congrArg some (by kernel_rfl))
 f129:=Tryz.func175.trans (congrArg some (by kernel_rfl))
 f189:=Tryz.func68.trans (congrArg some (by kernel_rfl))
 f215:=Tryz.func164.trans (congrArg some (by kernel_rfl))
 f216:=Tryz.func171.trans (congrArg some (by kernel_rfl))
 f257:=Tryz.func111.trans (congrArg some (by kernel_rfl))
 f294:=Tryz.func165.trans (congrArg some (by kernel_rfl))
 f295:=Tryz.func166.trans (congrArg some (by kernel_rfl))
 f296:=Tryz.func167.trans (congrArg some (by kernel_rfl))
 f297:=Tryz.func168.trans (congrArg some (by kernel_rfl))
 f298:=Tryz.func169.trans (congrArg some (by kernel_rfl))
 f299:=Tryz.func170.trans (congrArg some (by kernel_rfl))
 f300:=Tryz.func172.trans (congrArg some (by kernel_rfl))
 f301:=Tryz.func173.trans (congrArg some (by kernel_rfl))
 f328:=Tryz.func209.trans (congrArg some (by kernel_rfl))
 f329:=Tryz.func210.trans (congrArg some (by kernel_rfl))
 f330:=Tryz.func211.trans (congrArg some (by kernel_rfl))
 f331:=Tryz.func212.trans (congrArg some (by kernel_rfl))
 f332:=Tryz.func213.trans (congrArg some (by kernel_rfl))
 f343:=Tryz.func240.trans (congrArg some (by kernel_rfl))
 t0:=Tryz.underlying0
 a0:=Tryz.isAgg0
 z0:=Tryz.sizeOf0
 v0:=Tryz.zeroValue0
 t3:=Tryz.underlying3
 a3:=Tryz.isAgg3
 z3:=Tryz.sizeOf3
 v3:=Tryz.zeroValue3
 t4:=Tryz.underlying4
 a4:=Tryz.isAgg4
 z4:=Tryz.sizeOf4
 v4:=Tryz.zeroValue4
 t5:=Tryz.underlying5
 a5:=Tryz.isAgg5
 z5:=Tryz.sizeOf5
 v5:=Tryz.zeroValue5
 t9:=Tryz.underlying9
 a9:=Tryz.isAgg9
 z9:=Tryz.sizeOf9
 v9:=Tryz.zeroValue9
 t28:=Tryz.underlying53
 a28:=Tryz.isAgg53
 z28:=Tryz.sizeOf53
 v28:=Tryz.zeroValue53
 t46:=Tryz.underlying186
 a46:=Tryz.isAgg186
 z46:=Tryz.sizeOf186
 v46:=Tryz.zeroValue186
 t51:=Tryz.underlying137
 a51:=Tryz.isAgg137
 z51:=Tryz.sizeOf137
 v51:=Tryz.zeroValue137
 t53:=Tryz.underlying52
 a53:=Tryz.isAgg52
 z53:=Tryz.sizeOf52
 v53:=Tryz.zeroValue52
 t131:=Tryz.underlying200
 a131:=Tryz.isAgg200
 z131:=Tryz.sizeOf200
 v131:=Tryz.zeroValue200
 t182:=Tryz.underlying225
 a182:=Tryz.isAgg225
 z182:=Tryz.sizeOf225
 v182:=Tryz.zeroValue225
 t183:=Tryz.underlying226
 a183:=Tryz.isAgg226
 z183:=Tryz.sizeOf226
 v183:=Tryz.zeroValue226
 t218:=Tryz.underlying257
 a218:=Tryz.isAgg257
 z218:=Tryz.sizeOf257
 v218:=Tryz.zeroValue257
 t222:=Tryz.underlying261
 a222:=Tryz.isAgg261
 z222:=Tryz.sizeOf261
 v222:=Tryz.zeroValue261
 t228:=Tryz.underlying282
 a228:=Tryz.isAgg282
 z228:=Tryz.sizeOf282
 v228:=Tryz.zeroValue282
 t229:=Tryz.underlying188
 a229:=Tryz.isAgg188
 z229:=Tryz.sizeOf188
 v229:=Tryz.zeroValue188}
open Go.Sort Go.RowKit in
theorem Tryz.slices_Sort_int (nA off cap:Nat)(zs:List Int)(w:World)(hH:Holds (Value.int .i64) w nA off zs.toArray)(Bu:nA<w.heap.size)(aN:zs.length<4611686018427387904):
 Calls Tryz.prog 68 #[.slice (some ⟨nA,off,none⟩) zs.length cap] w fun e w'=>
  e=.returned (.tuple #[])∧∃n os,w'=grow (putRow (Value.int .i64) (Sort.ahead w n) nA off (zs.mergeSort fun x y=>decide (x≤y)).toArray) os:=Any.slices_Sort_int Tryz.lays189 nA off cap zs w hH Bu aN
def Tryz.laysNm215_ren:Go.Shelf.Ren:=⟨fun|15=>100|n=>n,fun|22=>53|3=>3|4=>4|n=>n,fun|n=>n⟩
theorem Tryz.laysNm215:Go.Proofs.Lays2.n15 Tryz.prog Tryz.laysNm215_ren:={
 mixed:=by kernel_rfl
 f15:=Tryz.func100.trans (congrArg some (by kernel_rfl))
 t3:=Tryz.underlying3
 a3:=Tryz.isAgg3
 z3:=Tryz.sizeOf3
 v3:=Tryz.zeroValue3
 t4:=Tryz.underlying4
 a4:=Tryz.isAgg4
 z4:=Tryz.sizeOf4
 v4:=Tryz.zeroValue4
 t22:=Tryz.underlying53
 a22:=Tryz.isAgg53
 z22:=Tryz.sizeOf53
 v22:=Tryz.zeroValue53
 i3:=by kernel_rfl}
open Go.RowKit Go.Lib in
theorem Tryz.slices_Clone_int (b off n c:Nat)(zs:List Int)(w:World)(hz:n≤zs.length)(ahj:n*8≤140737488355328)(hc:∀j,j<zs.length→w.cell? ⟨b,off+j,none⟩=some (.int .i64 (zs.getD j 0))):
 Calls Tryz.prog 100 #[.slice (some ⟨b,off,none⟩) n c] w fun e w'=>∃v',e=.returned v'∧w'.ownsRow w.heap.size 3 1 v' n ((zs.take n).map (Value.int .i64))∧v'≠.slice none 0 0∧Below w.heap.size w w':=Any.slices_Clone_int Tryz.laysNm215 b off n c zs w hz ahj hc
open Go.RowKit Go.Lib in
theorem Tryz.slices_Clone_int_nil (n c:Nat)(w:World):
 Calls Tryz.prog 100 #[.slice none n c] w fun e w'=>e=.returned (.slice none 0 0)∧w'=w:=Any.slices_Clone_int_nil Tryz.laysNm215 n c w
open Go.RowKit Go.Lib in
theorem Tryz.slices_Clone_int_zero (a:Addr)(c:Nat)(w:World):
 Calls Tryz.prog 100 #[.slice (some a) 0 c] w fun e w'=>∃v',e=.returned v'∧w'.ownsRow w.heap.size 3 1 v' 0 []∧v'≠.slice none 0 0∧Below w.heap.size w w':=Any.slices_Clone_int_zero Tryz.laysNm215 a c w
def Tryz.laysNm220_ren:Go.Shelf.Ren:=⟨fun|20=>69|n=>n,fun|22=>53|3=>3|4=>4|0=>0|n=>n,fun|n=>n⟩
theorem Tryz.laysNm220:Go.Proofs.Lays2.n20 Tryz.prog Tryz.laysNm220_ren:={
 mixed:=by kernel_rfl
 f20:=Tryz.func69.trans (congrArg some (by kernel_rfl))
 t0:=Tryz.underlying0
 a0:=Tryz.isAgg0
 z0:=Tryz.sizeOf0
 v0:=Tryz.zeroValue0
 t3:=Tryz.underlying3
 a3:=Tryz.isAgg3
 z3:=Tryz.sizeOf3
 v3:=Tryz.zeroValue3
 t4:=Tryz.underlying4
 a4:=Tryz.isAgg4
 z4:=Tryz.sizeOf4
 v4:=Tryz.zeroValue4
 t22:=Tryz.underlying53
 a22:=Tryz.isAgg53
 z22:=Tryz.sizeOf53
 v22:=Tryz.zeroValue53
 i3:=by kernel_rfl}
open Go.RowKit Go.Lib Go.Sort in
theorem Tryz.slices_Compact_int (nA off cap:Nat)(zs:List Int)(w:World)(hH:Holds (Value.int .i64) w nA off zs.toArray)(aN:zs.length≤9223372036854775807)(eE:zs.length≤cap):
 Calls Tryz.prog 69 #[.slice (some ⟨nA,off,none⟩) zs.length cap] w fun e w'=>e=.returned (.slice (some ⟨nA,off,none⟩) (Lib.compact zs).length cap)∧∃q,w'=putRow (Value.int .i64) (Sort.ahead w q) nA off (Lib.compact zs++List.replicate (zs.length-(Lib.compact zs).length) 0).toArray:=Any.slices_Compact_int Tryz.laysNm220 nA off cap zs w hH aN eE
open Go.RowKit Go.Lib Go.Sort in
theorem Tryz.slices_Compact_int_empty (a:Option Addr)(cap:Nat)(w:World):
 Calls Tryz.prog 69 #[.slice a 0 cap] w fun e w'=>e=.returned (.slice a 0 cap)∧w'=w:=Any.slices_Compact_int_empty Tryz.laysNm220 a cap w
open Go.RowKit Go.Sort in
theorem Tryz.slices_Sort_int_none (p:Option Addr)(cap:Nat)(w:World):
 Calls Tryz.prog 68 #[.slice p 0 cap] w fun e w'=>e=.returned (.tuple #[])∧w'=w:=Any.slices_Sort_int_none Tryz.lays189 p cap w
end Go.Proofs
namespace Rm
open Go Go.Proofs Cx Go.RowKit
def aa1 (ds:List D):Option D:=
 match ds with
 |[_,.list xs]=>if 0<xs.length∧xs.length≤4294967296 then some (.tup [.tup [],ints (eX (xs.map D.i))]) else none
 |_=>none
def DT (ds:List D):Option D:=
 match ds with
 |[_,.list xs]=>if xs.length≤4294967296 then some (.tup [.tup [],ints (eX (xs.map D.i))]) else none
 |_=>none
theorem apg (ds:List D)(d:D)(h:aa1 ds=some d):qf ctx 68 [.obj 0 0] [(0,.row 3 (.int .i64))] (.tup []) ds d:=by
 unfold aa1 at h;split at h
 case h_2=>cases h
 rename_i d0 xs;split at h
 case isFalse=>cases h
 rename_i hlen;cases h;intro N σ own hv w args cx Mm au hC bm hN aN bt fV h1 h2;obtain⟨v,rfl⟩:∃v,args=#[v]:=by
  match args,aN with
  |⟨[v]⟩,_=>exact⟨v,rfl⟩
 have nU:v=hv 0:=(h1 0).2 rfl;obtain⟨cells,fR,hx,lT,⟨vs,bE,LH⟩,yn⟩:=h2 0;have hx:D.list xs=D.list fR:=hx;cases hx
 have qZ:∀i (hi:i<xs.length),∃n,xs[i]=.int n∧vs i=.int .i64 n∧(IntKind.i64).min≤n∧n≤(IntKind.i64).max:=fun i hi=>by
  obtain⟨n,e1,e2,e3,e4⟩:=(bE i _ (be hi)).int_inv;exact⟨n,e2,e1,e3,e4⟩
 have iK:cells=(xs.map D.i).map (Value.int .i64):=by
  apply Ec;intro i;by_cases hi:i<xs.length
  ·obtain⟨n,e1,e2,_⟩:=qZ i hi;have:=LH i 0 (.int .i64 n) hi (by rw[e2];rfl);have e3:i*(Ty.int .i64).size+0=i:=by simp[Ty.size]
   rw[e3] at this;rw[this,cl,cl,be hi,e1];rfl
  ·have hl:cells.length=xs.length:=by have:=lT.1;simpa [Ty.size] using this
   rw[ls (by omega),ls (by simp;omega)]
 rcases lT.2 with⟨_,h0⟩|⟨g,cap,cur,e1,e2,e3,e4,e5,e6,e7⟩
 ·omega
 have da:(Ty.int .i64).size=1:=rfl;rw[da] at e6 e7;have hg:g<w.heap.size:=(eA.1 e3).1;have yw:own g=some 0:=yn g (by rw[e1];rfl);obtain⟨_,_,hgc,hgm⟩:=bt g 0 yw;have kp:(xs.map D.i).length=xs.length:=by simp
 have hH:Go.Sort.Holds (Value.int .i64) w g 0 (xs.map D.i).toArray:=holds_of_blockI e3 (by rw[kp,←iK,←e7];simp);have j9:=Tryz.slices_Sort_int g 0 cap (xs.map D.i) w hH hg (by omega);rw[nU,e1];rw[kp] at j9;refine j9.mono fun e w' hh=>?_;obtain⟨rfl,n,os,rfl⟩:=hh;rw[ajN];have iL:=grownBy_sortedI (w:=w) (g:=g) (n:=n) (os:=os) (eX (xs.map D.i)).toArray;have gH:∀k,k<w.heap.size→k≠g→(Go.Sort.grow (Go.Sort.putRow (Value.int .i64) (Go.Sort.ahead w n) g 0 (eX (xs.map D.i)).toArray) os).heap[k]?=w.heap[k]?:=fun k hk az=>iL.block k hk (fun e=>az (by cases e;rfl));have Cb:=ownsRow_sortedI (w:=w) (base:=N) (n:=n) (os:=os) (ss:=xs.map D.i) (ts:=eX (xs.map D.i)) (MW _) e2 e3 (by rw[kp];exact e4) e5 (by omega);have ahp:∀k o x,σ.c k o=some x→k≠g:=fun k o x hx e=>by subst e;rw[hgc o] at hx;cases hx
 have aik:∀k x,σ.m k=some x→k≠g:=fun k x hx e=>by subst e;rw[hgm] at hx;cases hx
 refine⟨.tuple #[],σ,fun k=>if own k=some 0 then some 0 else none,hv,.tup [],[ints (eX (xs.map D.i))],rfl,rfl,rfl,.refl σ,
  ⟨fun k o x hx=>by rw[World.cell?_of_block (gH k (World.block_lt_of_cell? w (a:=⟨k,o,none⟩) (au.c k o x hx)) (ahp k o x hx))];exact au.c k o x hx,fun k x hx=>(au.m k x hx).keep (gH k (au.m k x hx).lt (aik k x hx))⟩,
  ⟨iL.os,iL.tape,iL.output,iL.size,fun k hk=>by omega⟩,fun k hk hn=>gH k hk (fun e=>by subst e;rw[yw] at hn;cases hn),
  fun k o x hx=>⟨.inl hx,fun hc=>by rw[(fV k hc).2.2.1 o] at hx;cases hx⟩,fun k x hx=>⟨.inl hx,fun hc=>by rw[(fV k hc).2.2.2] at hx;cases hx⟩,fun k hx=>absurd hx (bm k),fun k j hk=>?_,fun t sh hs hd=>?_,fun j=>?_,
  .tup [] [] [] rfl rfl (fun i t hi=>by simp at hi)⟩
 ·by_cases ho:own k=some 0
  ·obtain⟨g1,g2,g3,g4⟩:=bt k 0 ho;exact⟨g1,qj g2 iL.size,g3,g4,fun _ hn=>by rw[ho] at hn;cases hn⟩
  ·simp[ho] at hk
 ·match t,hs with
  |0,hs=>simp at hs;subst hs;exact⟨aU _,fun _=>by simp[e1]⟩
  |t+1,hs=>simp at hs
 ·show bW ctx _ _ σ _ hv _ N j (bif Nat.beq 0 j then .row 3 (.int .i64) else .dead);cases hb:Nat.beq 0 j
  ·trivial
  ·have hj:=aw hb;subst hj;refine⟨(eX (xs.map D.i)).map (Value.int .i64),(eX (xs.map D.i)).map D.int,rfl,?_,⟨fun i=>.int .i64 ((eX (xs.map D.i)).getD i 0),fun i x hx=>?_,fun i j u hi hj=>?_⟩,fun k hk=>?_⟩
   ·rw[e1,da];have e8:((eX (xs.map D.i)).map D.int).length=xs.length:=by rw[eN,MW,kp]
    rw[e8];rw[kp] at Cb;exact Cb
   ·rw[cl,ax] at hx;obtain⟨m,hm,rfl⟩:=hx;have e9:(eX (xs.map D.i)).getD i 0=m:=by rw[aI,hm];rfl
    show Rep ctx.cap σ (.int .i64) (.int .i64 ((eX (xs.map D.i)).getD i 0)) _;rw[e9];have cQ:m∈xs.map D.i:=(Cq _).mem_iff.1 (jB hm);obtain⟨y,hy,rfl⟩:=cZ.1 cQ;obtain⟨q,hq,rfl⟩:=fj hy;obtain⟨n',f1,f2,f3,f4⟩:=qZ q hq;rw[f1];exact .int .i64 n' f3 f4
   ·have LW:j=0:=by
     have:=(eA.1 hj).1;simp[Value.cells] at this;omega
    subst LW;simp[Value.cells] at hj;subst hj;have dO:i<(eX (xs.map D.i)).length:=by simpa using hi
    simp[Ty.size,be dO,aI]
   ·rw[e1] at hk;simp[Value.ownBlock] at hk;subst hk;simp[yw]
theorem apf (ds:List D)(d:D)(h:DT ds=some d):eM ctx 68 [.obj 0 0] [(0,.row 3 (.int .i64))] (.tup []) ds d:=by
 refine eM.of (by simp) ?_;by_cases h0:∃d0,ds=[d0,.list []]
 case neg=>
  refine apg ds d ?_;unfold DT at h;split at h
  case h_2=>cases h
  rename_i d0 xs;split at h
  case isFalse=>cases h
  rename_i hlen;have G1:0<xs.length:=by
   cases xs with
   |nil=>exact absurd ⟨_,rfl⟩ h0
   |cons x xs=>simp
  show(if 0<xs.length∧xs.length≤4294967296 then some (D.tup [.tup [],ints (eX (xs.map D.i))]) else none)=some d;rw[if_pos ⟨G1,hlen⟩];exact h
 obtain⟨d0,rfl⟩:=h0;obtain rfl:D.tup [.tup [],.list []]=d:=by simpa [DT,eX,ints] using h
 intro N σ own hv w args cx Mm au hC bm hN aN bt fV h1 h2;obtain⟨v,rfl⟩:∃v,args=#[v]:=by
  match args,aN with
  |⟨[v]⟩,_=>exact⟨v,rfl⟩
 have nU:v=hv 0:=(h1 0).2 rfl;obtain⟨cells,fR,hx,lT,fI,yn⟩:=h2 0;have hx:D.list []=D.list fR:=hx;cases hx;obtain⟨p,cap,e1⟩:∃p cap,hv 0=.slice p 0 cap:=by
  rcases lT.2 with⟨e,_⟩|⟨g,cap,cur,e,_⟩
  ·exact⟨_,_,e⟩
  ·exact⟨_,_,e⟩
 rw[nU,e1];refine(Tryz.slices_Sort_int_none p cap w).mono fun e w' hh=>?_;obtain⟨rfl,rfl⟩:=hh
 refine⟨.tuple #[],σ,own,hv,.tup [],[.list []],rfl,rfl,rfl,.refl σ,au,.refl _ _,fun k hk _=>rfl,
  fun k o x hx=>⟨.inl hx,fun hc=>by rw[(fV k hc).2.2.1 o] at hx;cases hx⟩,fun k x hx=>⟨.inl hx,fun hc=>by rw[(fV k hc).2.2.2] at hx;cases hx⟩,fun k hx=>absurd hx (bm k),
  fun k j hk=>by obtain⟨g1,g2,g3,g4⟩:=bt k j hk;exact⟨g1,g2,g3,g4,fun _ hn=>by rw[hk] at hn;cases hn⟩,fun t sh hs hd=>?_,fun j=>?_,.tup [] [] [] rfl rfl (fun i t hi=>by simp at hi)⟩
 ·match t,hs with
  |0,hs=>simp at hs;subst hs;exact⟨aU _,fun _=>by simp[e1]⟩
  |t+1,hs=>simp at hs
 ·exact h2 j
def FV (ds:List D):Option D:=
 match ds with
 |[.list xs]=>if xs.length≤4294967296 then some (ints (je (xs.map D.i))) else none
 |_=>none
theorem adF (l:List Int):Go.Lib.compact l=je l:=by
 have e:∀j,l.toArray[j]! =l.getD j 0:=fun j=>by simp[aI,getElem!_def];cases l[j]?<;>rfl
 unfold Go.Lib.compact Go.Lib.compactUpTo je nE Go.Lib.keeps;simp only[e]
theorem ajP {cap:Nat→Option CSig}{σ:Im}{cells:List Value}{xs:List D}(hl:cells.length=xs.length*1)(h:dT cap σ (.int .i64) cells xs):cells=(xs.map D.i).map (Value.int .i64)∧∀x,x∈xs.map D.i→(IntKind.i64).min≤x∧x≤(IntKind.i64).max:=by
 obtain⟨vs,bE,LH⟩:=h
 have qZ:∀i (hi:i<xs.length),∃n,xs[i]=.int n∧vs i=.int .i64 n∧(IntKind.i64).min≤n∧n≤(IntKind.i64).max:=fun i hi=>by
  obtain⟨n,e1,e2,e3,e4⟩:=(bE i _ (be hi)).int_inv;exact⟨n,e2,e1,e3,e4⟩
 constructor
 ·apply Ec;intro i;by_cases hi:i<xs.length
  ·obtain⟨n,e1,e2,_⟩:=qZ i hi;have:=LH i 0 (.int .i64 n) hi (by rw[e2];rfl);have e3:i*(Ty.int .i64).size+0=i:=by simp[Ty.size]
   rw[e3] at this;rw[this,cl,cl,be hi,e1];rfl
  ·rw[ls (by omega),ls (by simp;omega)]
 ·intro x hx;obtain⟨y,hy,rfl⟩:=cZ.1 hx;obtain⟨q,hq,rfl⟩:=fj hy;obtain⟨n,f1,f2,f3,f4⟩:=qZ q hq;rw[f1];exact⟨f3,f4⟩
theorem Ww {cap:Nat→Option CSig}{σ:Im}{l:List Int}(h:∀x,x∈l→(IntKind.i64).min≤x∧x≤(IntKind.i64).max):dT cap σ (.int .i64) (l.map (Value.int .i64)) (l.map D.int):=by
 refine⟨fun i=>.int .i64 (l.getD i 0),fun i x hx=>?_,fun i j u hi hj=>?_⟩
 ·rw[cl,ax] at hx;obtain⟨m,hm,rfl⟩:=hx;have e9:l.getD i 0=m:=by rw[aI,hm];rfl
  show Rep cap σ (.int .i64) (.int .i64 (l.getD i 0)) _;rw[e9];have:=h m (jB hm);exact .int .i64 m this.1 this.2
 ·have LW:j=0:=by
   have:=(eA.1 hj).1;simp[Value.cells] at this;omega
  subst LW;simp[Value.cells] at hj;subst hj;have dO:i<l.length:=by simpa using hi
  simp[Ty.size,be dO,aI]
theorem adX (l:List Int):∀x,x∈je l→x∈l:=by
 intro x hx;unfold je nE at hx;obtain⟨j,hj,rfl⟩:=cZ.1 hx;have af:j<l.length:=gf.1 (eO.1 hj).1;rw[aI,be af];exact cM af
theorem adG (ds:List D)(d:D)(h:FV ds=some d):eM ctx 69 [.obj 0 0] [(0,.row 3 (.int .i64)),(1,.tr)] (.slice (.int .i64)) ds d:=by
 unfold FV at h;split at h
 case h_2=>cases h
 rename_i il;split at h
 case isFalse=>cases h
 rename_i hlen;cases h;show wK ctx 69 3 (.int .i64) [] [.list il] _;intro N σ w v args xs cells ds' qT au hC hN lT fI Bu ha;cases qT;obtain rfl:args=[]:=SZ.1 ha.1;have kM:cells.length=il.length*1:=lT.1;obtain⟨aW,br⟩:=ajP kM fI;have da:(Ty.int .i64).size=1:=rfl;rcases lT.2 with⟨e1,h0⟩|⟨g,cap,cur,e1,e2,e3,e4,e5,e6,e7⟩
 ·obtain rfl:il=[]:=SZ.1 h0;subst e1;refine(Tryz.slices_Compact_int_empty none 0 w).mono fun x w' hh=>?_;obtain⟨rfl,rfl⟩:=hh;exact⟨_,[],[],rfl,rfl,.refl _ _,fun _ _ _=>rfl,World.ownsRow_nil _ _ _ _,⟨fun _=>undef,by simp,by simp⟩,fun k hk=>by cases hk⟩
 rw[da] at e6 e7;subst e1;have kp:(il.map D.i).length=il.length:=by simp
 have hg:g<w.heap.size:=(eA.1 e3).1;have hH:Go.Sort.Holds (Value.int .i64) w g 0 (il.map D.i).toArray:=holds_of_blockI e3 (by rw[kp,←aW,←e7];simp);have j9:=Tryz.slices_Compact_int g 0 cap (il.map D.i) w hH (by rw[kp];omega) (by rw[kp];exact e4);rw[kp,adF] at j9;refine j9.mono fun x w' hh=>?_;obtain⟨rfl,n,rfl⟩:=hh;have Bz:(je (il.map D.i)).length≤il.length:=gy (adT (il.map D.i) (il.map D.i).length) (by rw[kp];exact aU _);generalize vd:je (il.map D.i)++List.replicate (il.length-(je (il.map D.i)).length) 0=ts;have htl:ts.length=(il.map D.i).length:=by rw[←vd];simp;omega
 have iL:=grownBy_sortedI (w:=w) (g:=g) (n:=n) (os:=#[]) ts.toArray;have Cb:=ownsRow_sortedI (w:=w) (base:=N) (n:=n) (os:=#[]) (ss:=il.map D.i) (ts:=ts) htl e2 e3 (by rw[kp];exact e4) e5 (by omega);have gk:∀W:World,Go.Sort.grow W #[]=W:=fun W=>by simp[Go.Sort.grow]
 rw[gk] at iL Cb;refine⟨_,(je (il.map D.i)).map D.int,(je (il.map D.i)).map (Value.int .i64),rfl,rfl,⟨iL.os,iL.tape,iL.output,iL.size,fun k hk=>iL.block k (by omega) (fun e=>by cases e;omega)⟩,fun k hk az=>iL.block k hk (fun e=>az (by cases e;rfl)),?_,Ww fun x hx=>br x (adX _ x hx),fun k hk=>?_⟩
 ·rw[da];refine⟨by simp,?_⟩;rcases Cb.2 with⟨f1,_⟩|⟨g',avq,adM,f1,f2,f3,f4,f5,f6,f7⟩
  ·cases f1
  ·cases f1;refine .inr ⟨g,cap,adM,by simp,f2,f3,by simp;omega,f5,f6,?_⟩;have:=congrArg (List.take (je (il.map D.i)).length) f7;rw[List.take_take,kp,Nat.mul_one,nl Bz,←vd,lx,List.take_left' (by simp)] at this;rw[eN,Nat.mul_one];exact this
 ·have bL:g=k:=by simpa [Value.ownBlock] using hk
  subst bL;exact⟨.inl (by simp[Value.ownBlock]),qj hg iL.size⟩
def FP (ds:List D):Option D:=
 match ds with
 |[.list xs]=>if xs.length≤4294967296 then some (.list xs) else none
 |_=>none
theorem adv (ds:List D)(d:D)(h:FP ds=some d):∃s,ctx.sig 100=some s∧j2 ctx 100 s ds d:=by
 refine⟨_,rfl,?_⟩;unfold FP at h;split at h
 case h_2=>cases h
 rename_i xs;split at h
 case isFalse=>cases h
 rename_i hlen;cases h;intro σ w args au hC ha;obtain⟨a1,a2,a3⟩:=ha;have Vi:=a3 0 _ rfl;obtain⟨v,rfl⟩:∃v,args=#[v]:=by
  have:args.size=1:=by simpa using a1
  match args,this with
  |⟨[v]⟩,_=>exact⟨v,rfl⟩
 simp only[qg] at Vi;have fin:∀(v':Value) (w':World) (l:List Int),l.map D.int=xs→(∀x,x∈l→(IntKind.i64).min≤x∧x≤(IntKind.i64).max)→w'.ownsRow w.heap.size 3 1 v' l.length (l.map (Value.int .i64))→Below w.heap.size w w'→
  ∃v σ',Ending.returned v'=Ending.returned v∧σ.le σ'∧σ'.ok w'∧Below w.heap.size w w'∧(∀k o x,σ'.c k o=some x→σ.c k o=some x∨w.heap.size≤k)∧(∀k x,σ'.m k=some x→σ.m k=some x∨w.heap.size≤k)∧nq ctx ⟨[.slice (.int .i64)],.slice (.int .i64),.row 3 (.int .i64)⟩ σ' w w' v (.list xs):=by
  intro v' w' l hl hb bt sm;subst hl;refine⟨v',σ,rfl,.refl σ,au.below sm,sm,fun _ _ _ h=>.inl h,fun _ _ h=>.inl h,?_⟩;refine⟨_,l.map D.int,rfl,by rw[eN];exact bt,Ww hb,fun k hk=>?_⟩;have bL:=(bt.lt k hk).1;refine⟨fun o=>?_,?_⟩
  ·cases hc:σ.c k o with
   |none=>rfl
   |some u=>have:=World.block_lt_of_cell? w (a:=⟨k,o,none⟩) (au.c _ _ _ hc);simp at this;omega
  ·cases hc:σ.m k with
   |none=>rfl
   |some u=>have:=(au.m k u hc).lt;omega
 obtain⟨fR,hx,sn⟩:=Rep.slice_inv Vi;cases hx;rcases sn with⟨⟨p,hv⟩,rfl⟩|⟨k,o,c,hv,h1,h2,vs,h3,h4⟩
 ·have hv:v=.slice p 0 0:=hv;subst hv;cases p with
  |none=>
   refine(Tryz.slices_Clone_int_nil 0 0 w).mono fun e w' hh=>?_;obtain⟨rfl,rfl⟩:=hh;exact fin _ _ [] rfl (by simp) (World.ownsRow_nil _ _ _ _) (.refl _ _)
  |some a=>
   refine(Tryz.slices_Clone_int_zero a 0 w).mono fun e w' hh=>?_;obtain⟨v',rfl,bt,_,hb⟩:=hh;exact fin v' w' [] rfl (by simp) bt hb
 ·have hv:v=.slice (some ⟨k,o,none⟩) xs.length c:=hv;subst hv
  have qZ:∀i (hi:i<xs.length),∃n,xs[i]=.int n∧vs i=.int .i64 n∧(IntKind.i64).min≤n∧n≤(IntKind.i64).max:=fun i hi=>by
   obtain⟨n,e1,e2,e3,e4⟩:=(h3 i _ (be hi)).int_inv;exact⟨n,e2,e1,e3,e4⟩
  have Ck:(xs.map D.i).map D.int=xs:=by
   apply SU (by simp);intro i yx GH;obtain⟨n,e1,_⟩:=qZ i GH;simp[e1]
  have kp:(xs.map D.i).length=xs.length:=by simp
  have aW:=Tryz.slices_Clone_int k o xs.length c (xs.map D.i) w (by simp) (by omega) (fun j hj=>by
   have cC:j<xs.length:=by simpa using hj
   obtain⟨n,e1,e2,_⟩:=qZ j cC;have:=au.c _ _ _ (h4 j 0 (.int .i64 n) cC (by rw[e2];rfl));have e3:(xs.map D.i).getD j 0=n:=by simp[aI,cC,e1]
   rw[e3];simpa [Ty.size] using this)
  refine aW.mono fun e w' hh=>?_;obtain⟨v',rfl,bt,_,hb⟩:=hh;refine fin v' w' (xs.map D.i) Ck (fun x hx=>?_) ?_ hb
  ·obtain⟨y,hy,rfl⟩:=cZ.1 hx;obtain⟨q,hq,rfl⟩:=fj hy;obtain⟨n,f1,f2,f3,f4⟩:=qZ q hq;rw[f1];exact⟨f3,f4⟩
  ·rw[kp];rw[wP (by simp)] at bt;exact bt
end Rm
namespace Rm
open Go Cx
abbrev str (b:ByteArray):D:=.v (.string b)
def strs (l:List ByteArray):D:=.list (l.map str)
@[simp] theorem ay6 (l:List ByteArray):(strs l).l=l.map str:=_root_.id rfl
theorem str_inv {d:D}(h:DTy .str d):∃b,d=str b:=by
 cases h with
 |str b=>exact⟨b,rfl⟩
 |other t d h=>exact h.elim
theorem apl {d:D}(h:DTy (.slice .str) d):∃l:List ByteArray,d=strs l∧l.length≤maxLen:=by
 obtain⟨xs,rfl,hm,hx⟩:=h.slice_inv;obtain⟨l,rfl,hl⟩:=jq (enc:=str) (P:=fun _=>True) fun x hh=>(str_inv (hx x hh)).imp fun b hb=>⟨hb,trivial⟩
 exact⟨l,rfl,by simpa using hm⟩
@[simp] theorem auk (t:Tm):(du t).cells=[.int t.op,.int t.n,.list (t.args.map du)]:=by rw[A6];rfl
@[simp] theorem aul (t:Tm):D.agg [.int t.op,.int t.n,.list (t.args.map du)]=du t:=(A6 t).symm
@[simp] theorem auh (t:Tm):(du t).c 0=.int t.op:=by rw[A6];rfl
@[simp] theorem aui (t:Tm):(du t).c 1=.int t.n:=by rw[A6];rfl
@[simp] theorem auj (t:Tm):(du t).c 2=.list (t.args.map du):=by rw[A6];rfl
structure City where
 name:ByteArray
 order:Int
 currency:Int
 rest:List Int
 feasts:List Int
 shut:List Int
 deriving Inhabited
def gh (x:City):D:=.agg [str x.name,.int x.order,.int x.currency,ints x.rest,ints x.feasts,ints x.shut]
@[simp] theorem as8 (x:City):(gh x).cells=[str x.name,.int x.order,.int x.currency,ints x.rest,ints x.feasts,ints x.shut]:=_root_.id rfl
@[simp] theorem axU (x:City):D.agg [str x.name,.int x.order,.int x.currency,ints x.rest,ints x.feasts,ints x.shut]=gh x:=_root_.id rfl
@[simp] theorem au4 (x:City):iw 6 (gh x)=gh x:=_root_.id rfl
@[simp] theorem as2 (x:City):(gh x).c 0=str x.name:=_root_.id rfl
@[simp] theorem as3 (x:City):(gh x).c 1=.int x.order:=_root_.id rfl
@[simp] theorem as4 (x:City):(gh x).c 2=.int x.currency:=_root_.id rfl
@[simp] theorem as5 (x:City):(gh x).c 3=ints x.rest:=_root_.id rfl
@[simp] theorem as6 (x:City):(gh x).c 4=ints x.feasts:=_root_.id rfl
@[simp] theorem as7 (x:City):(gh x).c 5=ints x.shut:=_root_.id rfl
def oU (l:List City):D:=.list (l.map gh)
@[simp] theorem avx (l:List City):(oU l).l=l.map gh:=_root_.id rfl
abbrev Sj:Ty:=.agg [.str,.int .i64,.int .i64,.slice (.int .i64),.slice (.int .i64),.slice (.int .i64)]
def City.OK (x:City):Prop:=aZ x.order∧aZ x.currency∧(x.rest.length≤maxLen∧∀y,y∈x.rest→aZ y)∧(x.feasts.length≤maxLen∧∀y,y∈x.feasts→aZ y)∧(x.shut.length≤maxLen∧∀y,y∈x.shut→aZ y)
theorem ads {d:D}(h:DTy Sj d):∃x:City,d=gh x∧x.OK:=by
 obtain⟨ds,rfl,hs⟩:=h.agg_inv;obtain⟨d0,ds,rfl,h0,hs⟩:=hs.cons_inv;obtain⟨d1,ds,rfl,h1,hs⟩:=hs.cons_inv;obtain⟨d2,ds,rfl,h2,hs⟩:=hs.cons_inv;obtain⟨d3,ds,rfl,h3,hs⟩:=hs.cons_inv;obtain⟨d4,ds,rfl,h4,hs⟩:=hs.cons_inv;obtain⟨d5,ds,rfl,h5,hs⟩:=hs.cons_inv;obtain rfl:=hs.nil_inv;obtain⟨n0,rfl⟩:=str_inv h0;obtain⟨n1,rfl,b1⟩:=h1.i64_inv;obtain⟨n2,rfl,b2⟩:=h2.i64_inv;obtain⟨n3,rfl,b3,c3⟩:=h3.ints_inv;obtain⟨n4,rfl,b4,c4⟩:=h4.ints_inv;obtain⟨n5,rfl,b5,c5⟩:=h5.ints_inv;exact⟨⟨n0,n1,n2,n3,n4,n5⟩,rfl,⟨b1,b2,⟨b3,c3⟩,⟨b4,c4⟩,⟨b5,c5⟩⟩⟩
theorem adt {d:D}(h:DTy (.slice Sj) d):∃l:List City,d=oU l∧l.length≤maxLen∧∀y,y∈l→City.OK y:=by
 obtain⟨xs,rfl,hm,hx⟩:=h.slice_inv;obtain⟨l,rfl,hl⟩:=jq (enc:=gh) (P:=City.OK) fun x hh=>ads (hx x hh);exact⟨l,rfl,by simpa using hm,hl⟩
structure Firm where
 name:ByteArray
 city:Int
 group:Int
 deriving Inhabited
def qE (x:Firm):D:=.agg [str x.name,.int x.city,.int x.group]
@[simp] theorem atu (x:Firm):(qE x).cells=[str x.name,.int x.city,.int x.group]:=_root_.id rfl
@[simp] theorem axY (x:Firm):D.agg [str x.name,.int x.city,.int x.group]=qE x:=_root_.id rfl
@[simp] theorem atr (x:Firm):(qE x).c 0=str x.name:=_root_.id rfl
@[simp] theorem ats (x:Firm):(qE x).c 1=.int x.city:=_root_.id rfl
@[simp] theorem att (x:Firm):(qE x).c 2=.int x.group:=_root_.id rfl
def firms (l:List Firm):D:=.list (l.map qE)
@[simp] theorem awK (l:List Firm):(firms l).l=l.map qE:=_root_.id rfl
abbrev Sl:Ty:=.agg [.str,.int .i64,.int .i64]
def Firm.OK (x:Firm):Prop:=aZ x.city∧aZ x.group
theorem afr {d:D}(h:DTy Sl d):∃x:Firm,d=qE x∧x.OK:=by
 obtain⟨ds,rfl,hs⟩:=h.agg_inv;obtain⟨d0,ds,rfl,h0,hs⟩:=hs.cons_inv;obtain⟨d1,ds,rfl,h1,hs⟩:=hs.cons_inv;obtain⟨d2,ds,rfl,h2,hs⟩:=hs.cons_inv;obtain rfl:=hs.nil_inv;obtain⟨n0,rfl⟩:=str_inv h0;obtain⟨n1,rfl,b1⟩:=h1.i64_inv;obtain⟨n2,rfl,b2⟩:=h2.i64_inv;exact⟨⟨n0,n1,n2⟩,rfl,⟨b1,b2⟩⟩
theorem afs {d:D}(h:DTy (.slice Sl) d):∃l:List Firm,d=firms l∧l.length≤maxLen∧∀y,y∈l→Firm.OK y:=by
 obtain⟨xs,rfl,hm,hx⟩:=h.slice_inv;obtain⟨l,rfl,hl⟩:=jq (enc:=qE) (P:=Firm.OK) fun x hh=>afr (hx x hh);exact⟨l,rfl,by simpa using hm,hl⟩
structure Group where
 grade:Int
 deriving DecidableEq,Inhabited
def uA (x:Group):D:=.agg [.int x.grade]
@[simp] theorem atw (x:Group):(uA x).cells=[.int x.grade]:=_root_.id rfl
@[simp] theorem axZ (x:Group):D.agg [.int x.grade]=uA x:=_root_.id rfl
@[simp] theorem atv (x:Group):(uA x).c 0=.int x.grade:=_root_.id rfl
def groups (l:List Group):D:=.list (l.map uA)
@[simp] theorem awS (l:List Group):(groups l).l=l.map uA:=_root_.id rfl
abbrev Sm:Ty:=.agg [.int .i64]
def Group.OK (x:Group):Prop:=aZ x.grade
theorem agA {d:D}(h:DTy Sm d):∃x:Group,d=uA x∧x.OK:=by
 obtain⟨ds,rfl,hs⟩:=h.agg_inv;obtain⟨d0,ds,rfl,h0,hs⟩:=hs.cons_inv;obtain rfl:=hs.nil_inv;obtain⟨n0,rfl,b0⟩:=h0.i64_inv;exact⟨⟨n0⟩,rfl,b0⟩
theorem agC {d:D}(h:DTy (.slice Sm) d):∃l:List Group,d=groups l∧l.length≤maxLen∧∀y,y∈l→Group.OK y:=by
 obtain⟨xs,rfl,hm,hx⟩:=h.slice_inv;obtain⟨l,rfl,hl⟩:=jq (enc:=uA) (P:=Group.OK) fun x hh=>agA (hx x hh);exact⟨l,rfl,by simpa using hm,hl⟩
structure Usance where
 fr:Int
 to:Int
 days:Int
 deriving DecidableEq,Inhabited
def qI (x:Usance):D:=.agg [.int x.fr,.int x.to,.int x.days]
@[simp] theorem auu (x:Usance):(qI x).cells=[.int x.fr,.int x.to,.int x.days]:=_root_.id rfl
@[simp] theorem ax9 (x:Usance):D.agg [.int x.fr,.int x.to,.int x.days]=qI x:=_root_.id rfl
@[simp] theorem aur (x:Usance):(qI x).c 0=.int x.fr:=_root_.id rfl
@[simp] theorem aus (x:Usance):(qI x).c 1=.int x.to:=_root_.id rfl
@[simp] theorem aut (x:Usance):(qI x).c 2=.int x.days:=_root_.id rfl
def usances (l:List Usance):D:=.list (l.map qI)
@[simp] theorem aza (l:List Usance):(usances l).l=l.map qI:=_root_.id rfl
abbrev Su:Ty:=.agg [.int .i64,.int .i64,.int .i64]
def Usance.OK (x:Usance):Prop:=aZ x.fr∧aZ x.to∧aZ x.days
theorem arX {d:D}(h:DTy Su d):∃x:Usance,d=qI x∧x.OK:=by
 obtain⟨ds,rfl,hs⟩:=h.agg_inv;obtain⟨d0,ds,rfl,h0,hs⟩:=hs.cons_inv;obtain⟨d1,ds,rfl,h1,hs⟩:=hs.cons_inv;obtain⟨d2,ds,rfl,h2,hs⟩:=hs.cons_inv;obtain rfl:=hs.nil_inv;obtain⟨n0,rfl,b0⟩:=h0.i64_inv;obtain⟨n1,rfl,b1⟩:=h1.i64_inv;obtain⟨n2,rfl,b2⟩:=h2.i64_inv;exact⟨⟨n0,n1,n2⟩,rfl,⟨b0,b1,b2⟩⟩
theorem arY {d:D}(h:DTy (.slice Su) d):∃l:List Usance,d=usances l∧l.length≤maxLen∧∀y,y∈l→Usance.OK y:=by
 obtain⟨xs,rfl,hm,hx⟩:=h.slice_inv;obtain⟨l,rfl,hl⟩:=jq (enc:=qI) (P:=Usance.OK) fun x hh=>arX (hx x hh);exact⟨l,rfl,by simpa using hm,hl⟩
structure Rate where
 fr:Int
 to:Int
 num:Int
 den:Int
 since:Int
 deriving DecidableEq,Inhabited
def nH (x:Rate):D:=.agg [.int x.fr,.int x.to,.int x.num,.int x.den,.int x.since]
@[simp] theorem atN (x:Rate):(nH x).cells=[.int x.fr,.int x.to,.int x.num,.int x.den,.int x.since]:=_root_.id rfl
@[simp] theorem ax2 (x:Rate):D.agg [.int x.fr,.int x.to,.int x.num,.int x.den,.int x.since]=nH x:=_root_.id rfl
@[simp] theorem atI (x:Rate):(nH x).c 0=.int x.fr:=_root_.id rfl
@[simp] theorem atJ (x:Rate):(nH x).c 1=.int x.to:=_root_.id rfl
@[simp] theorem atK (x:Rate):(nH x).c 2=.int x.num:=_root_.id rfl
@[simp] theorem atL (x:Rate):(nH x).c 3=.int x.den:=_root_.id rfl
@[simp] theorem atM (x:Rate):(nH x).c 4=.int x.since:=_root_.id rfl
def rates (l:List Rate):D:=.list (l.map nH)
@[simp] theorem ayu (l:List Rate):(rates l).l=l.map nH:=_root_.id rfl
abbrev Sq:Ty:=.agg [.int .i64,.int .i64,.int .i64,.int .i64,.int .i64]
def Rate.OK (x:Rate):Prop:=aZ x.fr∧aZ x.to∧aZ x.num∧aZ x.den∧aZ x.since
theorem anW {d:D}(h:DTy Sq d):∃x:Rate,d=nH x∧x.OK:=by
 obtain⟨ds,rfl,hs⟩:=h.agg_inv;obtain⟨d0,ds,rfl,h0,hs⟩:=hs.cons_inv;obtain⟨d1,ds,rfl,h1,hs⟩:=hs.cons_inv;obtain⟨d2,ds,rfl,h2,hs⟩:=hs.cons_inv;obtain⟨d3,ds,rfl,h3,hs⟩:=hs.cons_inv;obtain⟨d4,ds,rfl,h4,hs⟩:=hs.cons_inv;obtain rfl:=hs.nil_inv;obtain⟨n0,rfl,b0⟩:=h0.i64_inv;obtain⟨n1,rfl,b1⟩:=h1.i64_inv;obtain⟨n2,rfl,b2⟩:=h2.i64_inv;obtain⟨n3,rfl,b3⟩:=h3.i64_inv;obtain⟨n4,rfl,b4⟩:=h4.i64_inv;exact⟨⟨n0,n1,n2,n3,n4⟩,rfl,⟨b0,b1,b2,b3,b4⟩⟩
theorem anX {d:D}(h:DTy (.slice Sq) d):∃l:List Rate,d=rates l∧l.length≤maxLen∧∀y,y∈l→Rate.OK y:=by
 obtain⟨xs,rfl,hm,hx⟩:=h.slice_inv;obtain⟨l,rfl,hl⟩:=jq (enc:=nH) (P:=Rate.OK) fun x hh=>anW (hx x hh);exact⟨l,rfl,by simpa using hm,hl⟩
structure Halt where
 order:Int
 fr:Int
 to:Int
 deriving DecidableEq,Inhabited
def qF (x:Halt):D:=.agg [.int x.order,.int x.fr,.int x.to]
@[simp] theorem atA (x:Halt):(qF x).cells=[.int x.order,.int x.fr,.int x.to]:=_root_.id rfl
@[simp] theorem ax0 (x:Halt):D.agg [.int x.order,.int x.fr,.int x.to]=qF x:=_root_.id rfl
@[simp] theorem atx (x:Halt):(qF x).c 0=.int x.order:=_root_.id rfl
@[simp] theorem aty (x:Halt):(qF x).c 1=.int x.fr:=_root_.id rfl
@[simp] theorem atz (x:Halt):(qF x).c 2=.int x.to:=_root_.id rfl
def halts (l:List Halt):D:=.list (l.map qF)
@[simp] theorem aw0 (l:List Halt):(halts l).l=l.map qF:=_root_.id rfl
abbrev Sn:Ty:=.agg [.int .i64,.int .i64,.int .i64]
def Halt.OK (x:Halt):Prop:=aZ x.order∧aZ x.fr∧aZ x.to
theorem ag7 {d:D}(h:DTy Sn d):∃x:Halt,d=qF x∧x.OK:=by
 obtain⟨ds,rfl,hs⟩:=h.agg_inv;obtain⟨d0,ds,rfl,h0,hs⟩:=hs.cons_inv;obtain⟨d1,ds,rfl,h1,hs⟩:=hs.cons_inv;obtain⟨d2,ds,rfl,h2,hs⟩:=hs.cons_inv;obtain rfl:=hs.nil_inv;obtain⟨n0,rfl,b0⟩:=h0.i64_inv;obtain⟨n1,rfl,b1⟩:=h1.i64_inv;obtain⟨n2,rfl,b2⟩:=h2.i64_inv;exact⟨⟨n0,n1,n2⟩,rfl,⟨b0,b1,b2⟩⟩
theorem ag8 {d:D}(h:DTy (.slice Sn) d):∃l:List Halt,d=halts l∧l.length≤maxLen∧∀y,y∈l→Halt.OK y:=by
 obtain⟨xs,rfl,hm,hx⟩:=h.slice_inv;obtain⟨l,rfl,hl⟩:=jq (enc:=qF) (P:=Halt.OK) fun x hh=>ag7 (hx x hh);exact⟨l,rfl,by simpa using hm,hl⟩
structure Choice where
 ask:Int
 by_:Int
 whole:Bool
 deriving DecidableEq,Inhabited
def sc (x:Choice):D:=.agg [.int x.ask,.int x.by_,.bool x.whole]
@[simp] theorem as1 (x:Choice):(sc x).cells=[.int x.ask,.int x.by_,.bool x.whole]:=_root_.id rfl
@[simp] theorem axT (x:Choice):D.agg [.int x.ask,.int x.by_,.bool x.whole]=sc x:=_root_.id rfl
@[simp] theorem asZ (x:Choice):(sc x).c 0=.int x.ask:=_root_.id rfl
@[simp] theorem as0 (x:Choice):(sc x).c 1=.int x.by_:=_root_.id rfl
def choices (l:List Choice):D:=.list (l.map sc)
@[simp] theorem avw (l:List Choice):(choices l).l=l.map sc:=_root_.id rfl
abbrev Si:Ty:=.agg [.int .i64,.int .i64,.bool]
def Choice.OK (x:Choice):Prop:=aZ x.ask∧aZ x.by_
theorem adq {d:D}(h:DTy Si d):∃x:Choice,d=sc x∧x.OK:=by
 obtain⟨ds,rfl,hs⟩:=h.agg_inv;obtain⟨d0,ds,rfl,h0,hs⟩:=hs.cons_inv;obtain⟨d1,ds,rfl,h1,hs⟩:=hs.cons_inv;obtain⟨d2,ds,rfl,h2,hs⟩:=hs.cons_inv;obtain rfl:=hs.nil_inv;obtain⟨n0,rfl,b0⟩:=h0.i64_inv;obtain⟨n1,rfl,b1⟩:=h1.i64_inv;obtain⟨n2,rfl⟩:=h2.bool_inv;exact⟨⟨n0,n1,n2⟩,rfl,⟨b0,b1⟩⟩
theorem adr {d:D}(h:DTy (.slice Si) d):∃l:List Choice,d=choices l∧l.length≤maxLen∧∀y,y∈l→Choice.OK y:=by
 obtain⟨xs,rfl,hm,hx⟩:=h.slice_inv;obtain⟨l,rfl,hl⟩:=jq (enc:=sc) (P:=Choice.OK) fun x hh=>adq (hx x hh);exact⟨l,rfl,by simpa using hm,hl⟩
structure Rule where
 ask:Int
 term:Tm
 deriving Inhabited
def qG (x:Rule):D:=.agg [.int x.ask,.int x.term.op,.int x.term.n,.list (x.term.args.map du)]
@[simp] theorem at0 (x:Rule):(qG x).cells=[.int x.ask,.int x.term.op,.int x.term.n,.list (x.term.args.map du)]:=_root_.id rfl
@[simp] theorem ax4 (x:Rule):D.agg [.int x.ask,.int x.term.op,.int x.term.n,.list (x.term.args.map du)]=qG x:=_root_.id rfl
@[simp] theorem atZ (x:Rule):(qG x).c 0=.int x.ask:=_root_.id rfl
def rules (l:List Rule):D:=.list (l.map qG)
@[simp] theorem ayz (l:List Rule):(rules l).l=l.map qG:=_root_.id rfl
abbrev Sr:Ty:=.agg [.int .i64,.int .i64,.int .i64,.slice .trm]
def Rule.OK (x:Rule):Prop:=aZ x.ask∧Tm.OK x.term
theorem aoM {d:D}(h:DTy Sr d):∃x:Rule,d=qG x∧x.OK:=by
 obtain⟨ds,rfl,hs⟩:=h.agg_inv;obtain⟨d0,ds,rfl,h0,hs⟩:=hs.cons_inv;obtain⟨d1,ds,rfl,h1,hs⟩:=hs.cons_inv;obtain⟨d2,ds,rfl,h2,hs⟩:=hs.cons_inv;obtain⟨d3,ds,rfl,h3,hs⟩:=hs.cons_inv;obtain rfl:=hs.nil_inv;obtain⟨n0,rfl,b0⟩:=h0.i64_inv;obtain⟨n1,rfl,b1⟩:=h1.i64_inv;obtain⟨n2,rfl,b2⟩:=h2.i64_inv;obtain⟨n3,rfl,b3,c3⟩:=h3.trms_inv;exact⟨⟨n0,.mk n1 n2 n3⟩,rfl,⟨b0,.mk _ _ _ b1 b2 b3 c3⟩⟩
theorem aoN {d:D}(h:DTy (.slice Sr) d):∃l:List Rule,d=rules l∧l.length≤maxLen∧∀y,y∈l→Rule.OK y:=by
 obtain⟨xs,rfl,hm,hx⟩:=h.slice_inv;obtain⟨l,rfl,hl⟩:=jq (enc:=qG) (P:=Rule.OK) fun x hh=>aoM (hx x hh);exact⟨l,rfl,by simpa using hm,hl⟩
structure Order where
 name:ByteArray
 accepts:Bool
 choices:List Choice
 rules:List Rule
 deriving Inhabited
def jF (x:Order):D:=.agg [str x.name,.bool x.accepts,choices x.choices,rules x.rules]
@[simp] theorem atH (x:Order):(jF x).cells=[str x.name,.bool x.accepts,choices x.choices,rules x.rules]:=_root_.id rfl
@[simp] theorem ax1 (x:Order):D.agg [str x.name,.bool x.accepts,choices x.choices,rules x.rules]=jF x:=_root_.id rfl
@[simp] theorem au6 (x:Order):iw 4 (jF x)=jF x:=_root_.id rfl
@[simp] theorem atC (x:Order):(jF x).c 0=str x.name:=_root_.id rfl
@[simp] theorem atD (x:Order):(jF x).c 1=.bool x.accepts:=_root_.id rfl
@[simp] theorem atE (x:Order):(jF x).c 2=choices x.choices:=_root_.id rfl
@[simp] theorem atG (x:Order):(jF x).c 3=rules x.rules:=_root_.id rfl
def orders (l:List Order):D:=.list (l.map jF)
@[simp] theorem ayh (l:List Order):(orders l).l=l.map jF:=_root_.id rfl
abbrev Sp:Ty:=.agg [.str,.bool,.slice Si,.slice Sr]
def Order.OK (x:Order):Prop:=(x.choices.length≤maxLen∧∀y,y∈x.choices→Choice.OK y)∧(x.rules.length≤maxLen∧∀y,y∈x.rules→Rule.OK y)
theorem am8 {d:D}(h:DTy Sp d):∃x:Order,d=jF x∧x.OK:=by
 obtain⟨ds,rfl,hs⟩:=h.agg_inv;obtain⟨d0,ds,rfl,h0,hs⟩:=hs.cons_inv;obtain⟨d1,ds,rfl,h1,hs⟩:=hs.cons_inv;obtain⟨d2,ds,rfl,h2,hs⟩:=hs.cons_inv;obtain⟨d3,ds,rfl,h3,hs⟩:=hs.cons_inv;obtain rfl:=hs.nil_inv;obtain⟨n0,rfl⟩:=str_inv h0;obtain⟨n1,rfl⟩:=h1.bool_inv;obtain⟨n2,rfl,b2,c2⟩:=adr h2;obtain⟨n3,rfl,b3,c3⟩:=aoN h3;exact⟨⟨n0,n1,n2,n3⟩,rfl,⟨⟨b2,c2⟩,⟨b3,c3⟩⟩⟩
theorem am9 {d:D}(h:DTy (.slice Sp) d):∃l:List Order,d=orders l∧l.length≤maxLen∧∀y,y∈l→Order.OK y:=by
 obtain⟨xs,rfl,hm,hx⟩:=h.slice_inv;obtain⟨l,rfl,hl⟩:=jq (enc:=jF) (P:=Order.OK) fun x hh=>am8 (hx x hh);exact⟨l,rfl,by simpa using hm,hl⟩
structure Realm where
 currencies:List ByteArray
 cities:List City
 groups:List Group
 firms:List Firm
 orders:List Order
 usances:List Usance
 rates:List Rate
 halts:List Halt
 deriving Inhabited
def bA (x:Realm):D:=.agg [strs x.currencies,oU x.cities,groups x.groups,firms x.firms,orders x.orders,usances x.usances,rates x.rates,halts x.halts]
@[simp] theorem atY (x:Realm):(bA x).cells=[strs x.currencies,oU x.cities,groups x.groups,firms x.firms,orders x.orders,usances x.usances,rates x.rates,halts x.halts]:=_root_.id rfl
@[simp] theorem ax3 (x:Realm):D.agg [strs x.currencies,oU x.cities,groups x.groups,firms x.firms,orders x.orders,usances x.usances,rates x.rates,halts x.halts]=bA x:=_root_.id rfl
@[simp] theorem au7 (x:Realm):iw 8 (bA x)=bA x:=_root_.id rfl
@[simp] theorem atO (x:Realm):(bA x).c 0=strs x.currencies:=_root_.id rfl
@[simp] theorem atP (x:Realm):(bA x).c 1=oU x.cities:=_root_.id rfl
@[simp] theorem atQ (x:Realm):(bA x).c 2=groups x.groups:=_root_.id rfl
@[simp] theorem atT (x:Realm):(bA x).c 3=firms x.firms:=_root_.id rfl
@[simp] theorem atU (x:Realm):(bA x).c 4=orders x.orders:=_root_.id rfl
@[simp] theorem atV (x:Realm):(bA x).c 5=usances x.usances:=_root_.id rfl
@[simp] theorem atW (x:Realm):(bA x).c 6=rates x.rates:=_root_.id rfl
@[simp] theorem atX (x:Realm):(bA x).c 7=halts x.halts:=_root_.id rfl
abbrev arR:Ty:=.agg [.slice .str,.slice Sj,.slice Sm,.slice Sl,.slice Sp,.slice Su,.slice Sq,.slice Sn]
def Realm.OK (x:Realm):Prop:=x.currencies.length≤maxLen∧(x.cities.length≤maxLen∧∀y,y∈x.cities→City.OK y)∧(x.groups.length≤maxLen∧∀y,y∈x.groups→Group.OK y)∧(x.firms.length≤maxLen∧∀y,y∈x.firms→Firm.OK y)∧(x.orders.length≤maxLen∧∀y,y∈x.orders→Order.OK y)∧(x.usances.length≤maxLen∧∀y,y∈x.usances→Usance.OK y)∧(x.rates.length≤maxLen∧∀y,y∈x.rates→Rate.OK y)∧(x.halts.length≤maxLen∧∀y,y∈x.halts→Halt.OK y)
theorem aom {d:D}(h:DTy arR d):∃x:Realm,d=bA x∧x.OK:=by
 obtain⟨ds,rfl,hs⟩:=h.agg_inv;obtain⟨d0,ds,rfl,h0,hs⟩:=hs.cons_inv;obtain⟨d1,ds,rfl,h1,hs⟩:=hs.cons_inv;obtain⟨d2,ds,rfl,h2,hs⟩:=hs.cons_inv;obtain⟨d3,ds,rfl,h3,hs⟩:=hs.cons_inv;obtain⟨d4,ds,rfl,h4,hs⟩:=hs.cons_inv;obtain⟨d5,ds,rfl,h5,hs⟩:=hs.cons_inv;obtain⟨d6,ds,rfl,h6,hs⟩:=hs.cons_inv;obtain⟨d7,ds,rfl,h7,hs⟩:=hs.cons_inv;obtain rfl:=hs.nil_inv;obtain⟨n0,rfl,b0⟩:=apl h0;obtain⟨n1,rfl,b1,c1⟩:=adt h1;obtain⟨n2,rfl,b2,c2⟩:=agC h2;obtain⟨n3,rfl,b3,c3⟩:=afs h3;obtain⟨n4,rfl,b4,c4⟩:=am9 h4;obtain⟨n5,rfl,b5,c5⟩:=arY h5;obtain⟨n6,rfl,b6,c6⟩:=anX h6;obtain⟨n7,rfl,b7,c7⟩:=ag8 h7;exact⟨⟨n0,n1,n2,n3,n4,n5,n6,n7⟩,rfl,⟨b0,⟨b1,c1⟩,⟨b2,c2⟩,⟨b3,c3⟩,⟨b4,c4⟩,⟨b5,c5⟩,⟨b6,c6⟩,⟨b7,c7⟩⟩⟩
structure Tenor where
 kind:Int
 n:Int
 unit:Int
 deriving DecidableEq,Inhabited
def qH (x:Tenor):D:=.agg [.int x.kind,.int x.n,.int x.unit]
@[simp] theorem aup (x:Tenor):(qH x).cells=[.int x.kind,.int x.n,.int x.unit]:=_root_.id rfl
@[simp] theorem ax8 (x:Tenor):D.agg [.int x.kind,.int x.n,.int x.unit]=qH x:=_root_.id rfl
@[simp] theorem aum (x:Tenor):(qH x).c 0=.int x.kind:=_root_.id rfl
@[simp] theorem aun (x:Tenor):(qH x).c 1=.int x.n:=_root_.id rfl
@[simp] theorem auo (x:Tenor):(qH x).c 2=.int x.unit:=_root_.id rfl
def Tenor.OK (x:Tenor):Prop:=aZ x.kind∧aZ x.n∧aZ x.unit
structure Bill where
 drawer:Int
 drawee:Int
 payee:Int
 sum:Int
 currency:Int
 tenor:Tenor
 day:Int
 city:Int
 pay:Int
 need:Int
 rate:Int
 flags:Int
 parts:Int
 deriving DecidableEq,Inhabited
def dV (x:Bill):D:=.agg [.int x.drawer,.int x.drawee,.int x.payee,.int x.sum,.int x.currency,.int x.tenor.kind,.int x.tenor.n,.int x.tenor.unit,.int x.day,.int x.city,.int x.pay,.int x.need,.int x.rate,.int x.flags,.int x.parts]
@[simp] theorem asM (x:Bill):(dV x).cells=[.int x.drawer,.int x.drawee,.int x.payee,.int x.sum,.int x.currency,.int x.tenor.kind,.int x.tenor.n,.int x.tenor.unit,.int x.day,.int x.city,.int x.pay,.int x.need,.int x.rate,.int x.flags,.int x.parts]:=_root_.id rfl
@[simp] theorem axQ (x:Bill):D.agg [.int x.drawer,.int x.drawee,.int x.payee,.int x.sum,.int x.currency,.int x.tenor.kind,.int x.tenor.n,.int x.tenor.unit,.int x.day,.int x.city,.int x.pay,.int x.need,.int x.rate,.int x.flags,.int x.parts]=dV x:=_root_.id rfl
@[simp] theorem au3 (x:Bill):iw 15 (dV x)=dV x:=_root_.id rfl
@[simp] theorem ayi (x:Bill)(a0 a1 a2 a3 a4 a5 a6 a7 a8 a9 nr ns a12 nu nv:D):D.agg (cr [a0,a1,a2,a3,a4,a5,a6,a7,a8,a9,nr,ns,a12,nu,nv] 0 [.int x.drawer,.int x.drawee,.int x.payee,.int x.sum,.int x.currency,.int x.tenor.kind,.int x.tenor.n,.int x.tenor.unit,.int x.day,.int x.city,.int x.pay,.int x.need,.int x.rate,.int x.flags,.int x.parts])=dV x:=_root_.id rfl
@[simp] theorem asx (x:Bill):(dV x).c 0=.int x.drawer:=_root_.id rfl
@[simp] theorem asy (x:Bill):(dV x).c 1=.int x.drawee:=_root_.id rfl
@[simp] theorem asE (x:Bill):(dV x).c 2=.int x.payee:=_root_.id rfl
@[simp] theorem asF (x:Bill):(dV x).c 3=.int x.sum:=_root_.id rfl
@[simp] theorem asG (x:Bill):(dV x).c 4=.int x.currency:=_root_.id rfl
@[simp] theorem asH (x:Bill):(dV x).c 5=.int x.tenor.kind:=_root_.id rfl
@[simp] theorem asI (x:Bill):(dV x).c 6=.int x.tenor.n:=_root_.id rfl
@[simp] theorem asJ (x:Bill):(dV x).c 7=.int x.tenor.unit:=_root_.id rfl
@[simp] theorem asK (x:Bill):(dV x).c 8=.int x.day:=_root_.id rfl
@[simp] theorem asL (x:Bill):(dV x).c 9=.int x.city:=_root_.id rfl
@[simp] theorem asz (x:Bill):(dV x).c 10=.int x.pay:=_root_.id rfl
@[simp] theorem asA (x:Bill):(dV x).c 11=.int x.need:=_root_.id rfl
@[simp] theorem asB (x:Bill):(dV x).c 12=.int x.rate:=_root_.id rfl
@[simp] theorem asC (x:Bill):(dV x).c 13=.int x.flags:=_root_.id rfl
@[simp] theorem asD (x:Bill):(dV x).c 14=.int x.parts:=_root_.id rfl
def Bill.OK (x:Bill):Prop:=aZ x.drawer∧aZ x.drawee∧aZ x.payee∧aZ x.sum∧aZ x.currency∧Tenor.OK x.tenor∧aZ x.day∧aZ x.city∧aZ x.pay∧aZ x.need∧aZ x.rate∧aZ x.flags∧aZ x.parts
structure Sign where
 kind:Int
 part:Int
 who:Int
 for_:Int
 to:Int
 sum:Int
 day:Int
 city:Int
 flags:Int
 deriving DecidableEq,Inhabited
def jf (x:Sign):D:=.agg [.int x.kind,.int x.part,.int x.who,.int x.for_,.int x.to,.int x.sum,.int x.day,.int x.city,.int x.flags]
@[simp] theorem aug (x:Sign):(jf x).cells=[.int x.kind,.int x.part,.int x.who,.int x.for_,.int x.to,.int x.sum,.int x.day,.int x.city,.int x.flags]:=_root_.id rfl
@[simp] theorem ax7 (x:Sign):D.agg [.int x.kind,.int x.part,.int x.who,.int x.for_,.int x.to,.int x.sum,.int x.day,.int x.city,.int x.flags]=jf x:=_root_.id rfl
@[simp] theorem au9 (x:Sign):iw 9 (jf x)=jf x:=_root_.id rfl
@[simp] theorem at5 (x:Sign):(jf x).c 0=.int x.kind:=_root_.id rfl
@[simp] theorem at6 (x:Sign):(jf x).c 1=.int x.part:=_root_.id rfl
@[simp] theorem at7 (x:Sign):(jf x).c 2=.int x.who:=_root_.id rfl
@[simp] theorem aua (x:Sign):(jf x).c 3=.int x.for_:=_root_.id rfl
@[simp] theorem aub (x:Sign):(jf x).c 4=.int x.to:=_root_.id rfl
@[simp] theorem auc (x:Sign):(jf x).c 5=.int x.sum:=_root_.id rfl
@[simp] theorem aud (x:Sign):(jf x).c 6=.int x.day:=_root_.id rfl
@[simp] theorem aue (x:Sign):(jf x).c 7=.int x.city:=_root_.id rfl
@[simp] theorem auf (x:Sign):(jf x).c 8=.int x.flags:=_root_.id rfl
def signs (l:List Sign):D:=.list (l.map jf)
@[simp] theorem ayL (l:List Sign):(signs l).l=l.map jf:=_root_.id rfl
@[simp] theorem ayK (l:List Sign):(signs l).cells=[signs l]:=_root_.id rfl
abbrev Ss:Ty:=.agg [.int .i64,.int .i64,.int .i64,.int .i64,.int .i64,.int .i64,.int .i64,.int .i64,.int .i64]
def Sign.OK (x:Sign):Prop:=aZ x.kind∧aZ x.part∧aZ x.who∧aZ x.for_∧aZ x.to∧aZ x.sum∧aZ x.day∧aZ x.city∧aZ x.flags
theorem apb {d:D}(h:DTy Ss d):∃x:Sign,d=jf x∧x.OK:=by
 obtain⟨ds,rfl,hs⟩:=h.agg_inv;obtain⟨d0,ds,rfl,h0,hs⟩:=hs.cons_inv;obtain⟨d1,ds,rfl,h1,hs⟩:=hs.cons_inv;obtain⟨d2,ds,rfl,h2,hs⟩:=hs.cons_inv;obtain⟨d3,ds,rfl,h3,hs⟩:=hs.cons_inv;obtain⟨d4,ds,rfl,h4,hs⟩:=hs.cons_inv;obtain⟨d5,ds,rfl,h5,hs⟩:=hs.cons_inv;obtain⟨d6,ds,rfl,h6,hs⟩:=hs.cons_inv;obtain⟨d7,ds,rfl,h7,hs⟩:=hs.cons_inv;obtain⟨d8,ds,rfl,h8,hs⟩:=hs.cons_inv;obtain rfl:=hs.nil_inv;obtain⟨n0,rfl,b0⟩:=h0.i64_inv;obtain⟨n1,rfl,b1⟩:=h1.i64_inv;obtain⟨n2,rfl,b2⟩:=h2.i64_inv;obtain⟨n3,rfl,b3⟩:=h3.i64_inv;obtain⟨n4,rfl,b4⟩:=h4.i64_inv;obtain⟨n5,rfl,b5⟩:=h5.i64_inv;obtain⟨n6,rfl,b6⟩:=h6.i64_inv;obtain⟨n7,rfl,b7⟩:=h7.i64_inv;obtain⟨n8,rfl,b8⟩:=h8.i64_inv;exact⟨⟨n0,n1,n2,n3,n4,n5,n6,n7,n8⟩,rfl,⟨b0,b1,b2,b3,b4,b5,b6,b7,b8⟩⟩
theorem apd {d:D}(h:DTy (.slice Ss) d):∃l:List Sign,d=signs l∧l.length≤maxLen∧∀y,y∈l→Sign.OK y:=by
 obtain⟨xs,rfl,hm,hx⟩:=h.slice_inv;obtain⟨l,rfl,hl⟩:=jq (enc:=jf) (P:=Sign.OK) fun x hh=>apb (hx x hh);exact⟨l,rfl,by simpa using hm,hl⟩
structure Alter where
 at_:Int
 sum:Int
 deriving DecidableEq,Inhabited
def nG (x:Alter):D:=.agg [.int x.at_,.int x.sum]
@[simp] theorem asw (x:Alter):(nG x).cells=[.int x.at_,.int x.sum]:=_root_.id rfl
@[simp] theorem axP (x:Alter):D.agg [.int x.at_,.int x.sum]=nG x:=_root_.id rfl
@[simp] theorem asu (x:Alter):(nG x).c 0=.int x.at_:=_root_.id rfl
@[simp] theorem asv (x:Alter):(nG x).c 1=.int x.sum:=_root_.id rfl
def alters (l:List Alter):D:=.list (l.map nG)
@[simp] theorem avd (l:List Alter):(alters l).l=l.map nG:=_root_.id rfl
@[simp] theorem avc (l:List Alter):(alters l).cells=[alters l]:=_root_.id rfl
abbrev Sg:Ty:=.agg [.int .i64,.int .i64]
def Alter.OK (x:Alter):Prop:=aZ x.at_∧aZ x.sum
theorem ab9 {d:D}(h:DTy Sg d):∃x:Alter,d=nG x∧x.OK:=by
 obtain⟨ds,rfl,hs⟩:=h.agg_inv;obtain⟨d0,ds,rfl,h0,hs⟩:=hs.cons_inv;obtain⟨d1,ds,rfl,h1,hs⟩:=hs.cons_inv;obtain rfl:=hs.nil_inv;obtain⟨n0,rfl,b0⟩:=h0.i64_inv;obtain⟨n1,rfl,b1⟩:=h1.i64_inv;exact⟨⟨n0,n1⟩,rfl,⟨b0,b1⟩⟩
theorem aca {d:D}(h:DTy (.slice Sg) d):∃l:List Alter,d=alters l∧l.length≤maxLen∧∀y,y∈l→Alter.OK y:=by
 obtain⟨xs,rfl,hm,hx⟩:=h.slice_inv;obtain⟨l,rfl,hl⟩:=jq (enc:=nG) (P:=Alter.OK) fun x hh=>ab9 (hx x hh);exact⟨l,rfl,by simpa using hm,hl⟩
structure Act where
 kind:Int
 who:Int
 to:Int
 part:Int
 at_:Int
 sum:Int
 day:Int
 city:Int
 form:Int
 deriving DecidableEq,Inhabited
def iz (x:Act):D:=.agg [.int x.kind,.int x.who,.int x.to,.int x.part,.int x.at_,.int x.sum,.int x.day,.int x.city,.int x.form]
@[simp] theorem ast (x:Act):(iz x).cells=[.int x.kind,.int x.who,.int x.to,.int x.part,.int x.at_,.int x.sum,.int x.day,.int x.city,.int x.form]:=_root_.id rfl
@[simp] theorem axO (x:Act):D.agg [.int x.kind,.int x.who,.int x.to,.int x.part,.int x.at_,.int x.sum,.int x.day,.int x.city,.int x.form]=iz x:=_root_.id rfl
@[simp] theorem au2 (x:Act):iw 9 (iz x)=iz x:=_root_.id rfl
@[simp] theorem asi (x:Act):(iz x).c 0=.int x.kind:=_root_.id rfl
@[simp] theorem asj (x:Act):(iz x).c 1=.int x.who:=_root_.id rfl
@[simp] theorem asl (x:Act):(iz x).c 2=.int x.to:=_root_.id rfl
@[simp] theorem asn (x:Act):(iz x).c 3=.int x.part:=_root_.id rfl
@[simp] theorem aso (x:Act):(iz x).c 4=.int x.at_:=_root_.id rfl
@[simp] theorem asp (x:Act):(iz x).c 5=.int x.sum:=_root_.id rfl
@[simp] theorem asq (x:Act):(iz x).c 6=.int x.day:=_root_.id rfl
@[simp] theorem asr (x:Act):(iz x).c 7=.int x.city:=_root_.id rfl
@[simp] theorem ass (x:Act):(iz x).c 8=.int x.form:=_root_.id rfl
def acts (l:List Act):D:=.list (l.map iz)
@[simp] theorem auV (l:List Act):(acts l).l=l.map iz:=_root_.id rfl
@[simp] theorem auU (l:List Act):(acts l).cells=[acts l]:=_root_.id rfl
abbrev Sf:Ty:=.agg [.int .i64,.int .i64,.int .i64,.int .i64,.int .i64,.int .i64,.int .i64,.int .i64,.int .i64]
def Act.OK (x:Act):Prop:=aZ x.kind∧aZ x.who∧aZ x.to∧aZ x.part∧aZ x.at_∧aZ x.sum∧aZ x.day∧aZ x.city∧aZ x.form
theorem abZ {d:D}(h:DTy Sf d):∃x:Act,d=iz x∧x.OK:=by
 obtain⟨ds,rfl,hs⟩:=h.agg_inv;obtain⟨d0,ds,rfl,h0,hs⟩:=hs.cons_inv;obtain⟨d1,ds,rfl,h1,hs⟩:=hs.cons_inv;obtain⟨d2,ds,rfl,h2,hs⟩:=hs.cons_inv;obtain⟨d3,ds,rfl,h3,hs⟩:=hs.cons_inv;obtain⟨d4,ds,rfl,h4,hs⟩:=hs.cons_inv;obtain⟨d5,ds,rfl,h5,hs⟩:=hs.cons_inv;obtain⟨d6,ds,rfl,h6,hs⟩:=hs.cons_inv;obtain⟨d7,ds,rfl,h7,hs⟩:=hs.cons_inv;obtain⟨d8,ds,rfl,h8,hs⟩:=hs.cons_inv;obtain rfl:=hs.nil_inv;obtain⟨n0,rfl,b0⟩:=h0.i64_inv;obtain⟨n1,rfl,b1⟩:=h1.i64_inv;obtain⟨n2,rfl,b2⟩:=h2.i64_inv;obtain⟨n3,rfl,b3⟩:=h3.i64_inv;obtain⟨n4,rfl,b4⟩:=h4.i64_inv;obtain⟨n5,rfl,b5⟩:=h5.i64_inv;obtain⟨n6,rfl,b6⟩:=h6.i64_inv;obtain⟨n7,rfl,b7⟩:=h7.i64_inv;obtain⟨n8,rfl,b8⟩:=h8.i64_inv;exact⟨⟨n0,n1,n2,n3,n4,n5,n6,n7,n8⟩,rfl,⟨b0,b1,b2,b3,b4,b5,b6,b7,b8⟩⟩
theorem ab0 {d:D}(h:DTy (.slice Sf) d):∃l:List Act,d=acts l∧l.length≤maxLen∧∀y,y∈l→Act.OK y:=by
 obtain⟨xs,rfl,hm,hx⟩:=h.slice_inv;obtain⟨l,rfl,hl⟩:=jq (enc:=iz) (P:=Act.OK) fun x hh=>abZ (hx x hh);exact⟨l,rfl,by simpa using hm,hl⟩
structure Fact where
 kind:Int
 at_:Int
 n:Int
 deriving DecidableEq,Inhabited
def qD (x:Fact):D:=.agg [.int x.kind,.int x.at_,.int x.n]
@[simp] theorem ath (x:Fact):(qD x).cells=[.int x.kind,.int x.at_,.int x.n]:=_root_.id rfl
@[simp] theorem axW (x:Fact):D.agg [.int x.kind,.int x.at_,.int x.n]=qD x:=_root_.id rfl
@[simp] theorem ate (x:Fact):(qD x).c 0=.int x.kind:=_root_.id rfl
@[simp] theorem atf (x:Fact):(qD x).c 1=.int x.at_:=_root_.id rfl
@[simp] theorem atg (x:Fact):(qD x).c 2=.int x.n:=_root_.id rfl
def facts (l:List Fact):D:=.list (l.map qD)
@[simp] theorem awH (l:List Fact):(facts l).l=l.map qD:=_root_.id rfl
@[simp] theorem awG (l:List Fact):(facts l).cells=[facts l]:=_root_.id rfl
abbrev Sk:Ty:=.agg [.int .i64,.int .i64,.int .i64]
def Fact.OK (x:Fact):Prop:=aZ x.kind∧aZ x.at_∧aZ x.n
theorem afg {d:D}(h:DTy Sk d):∃x:Fact,d=qD x∧x.OK:=by
 obtain⟨ds,rfl,hs⟩:=h.agg_inv;obtain⟨d0,ds,rfl,h0,hs⟩:=hs.cons_inv;obtain⟨d1,ds,rfl,h1,hs⟩:=hs.cons_inv;obtain⟨d2,ds,rfl,h2,hs⟩:=hs.cons_inv;obtain rfl:=hs.nil_inv;obtain⟨n0,rfl,b0⟩:=h0.i64_inv;obtain⟨n1,rfl,b1⟩:=h1.i64_inv;obtain⟨n2,rfl,b2⟩:=h2.i64_inv;exact⟨⟨n0,n1,n2⟩,rfl,⟨b0,b1,b2⟩⟩
theorem afh {d:D}(h:DTy (.slice Sk) d):∃l:List Fact,d=facts l∧l.length≤maxLen∧∀y,y∈l→Fact.OK y:=by
 obtain⟨xs,rfl,hm,hx⟩:=h.slice_inv;obtain⟨l,rfl,hl⟩:=jq (enc:=qD) (P:=Fact.OK) fun x hh=>afg (hx x hh);exact⟨l,rfl,by simpa using hm,hl⟩
structure File where
 bill:Bill
 signs:List Sign
 alters:List Alter
 acts:List Act
 facts:List Fact
 deriving Inhabited
def cB (x:File):D:=.agg [.int x.bill.drawer,.int x.bill.drawee,.int x.bill.payee,.int x.bill.sum,.int x.bill.currency,.int x.bill.tenor.kind,.int x.bill.tenor.n,.int x.bill.tenor.unit,.int x.bill.day,.int x.bill.city,.int x.bill.pay,.int x.bill.need,.int x.bill.rate,.int x.bill.flags,.int x.bill.parts,signs x.signs,alters x.alters,acts x.acts,facts x.facts]
@[simp] theorem atq (x:File):(cB x).cells=[.int x.bill.drawer,.int x.bill.drawee,.int x.bill.payee,.int x.bill.sum,.int x.bill.currency,.int x.bill.tenor.kind,.int x.bill.tenor.n,.int x.bill.tenor.unit,.int x.bill.day,.int x.bill.city,.int x.bill.pay,.int x.bill.need,.int x.bill.rate,.int x.bill.flags,.int x.bill.parts,signs x.signs,alters x.alters,acts x.acts,facts x.facts]:=_root_.id rfl
@[simp] theorem axX (x:File):D.agg [.int x.bill.drawer,.int x.bill.drawee,.int x.bill.payee,.int x.bill.sum,.int x.bill.currency,.int x.bill.tenor.kind,.int x.bill.tenor.n,.int x.bill.tenor.unit,.int x.bill.day,.int x.bill.city,.int x.bill.pay,.int x.bill.need,.int x.bill.rate,.int x.bill.flags,.int x.bill.parts,signs x.signs,alters x.alters,acts x.acts,facts x.facts]=cB x:=_root_.id rfl
@[simp] theorem au5 (x:File):iw 19 (cB x)=cB x:=_root_.id rfl
@[simp] theorem ayj (x:File)(a0 a1 a2 a3 a4 a5 a6 a7 a8 a9 nr ns a12 nu nv qo qp qq qs:D):D.agg (cr [a0,a1,a2,a3,a4,a5,a6,a7,a8,a9,nr,ns,a12,nu,nv,qo,qp,qq,qs] 0 [.int x.bill.drawer,.int x.bill.drawee,.int x.bill.payee,.int x.bill.sum,.int x.bill.currency,.int x.bill.tenor.kind,.int x.bill.tenor.n,.int x.bill.tenor.unit,.int x.bill.day,.int x.bill.city,.int x.bill.pay,.int x.bill.need,.int x.bill.rate,.int x.bill.flags,.int x.bill.parts,signs x.signs,alters x.alters,acts x.acts,facts x.facts])=cB x:=_root_.id rfl
@[simp] theorem atn (x:File):(cB x).c 3=.int x.bill.sum:=_root_.id rfl
@[simp] theorem ato (x:File):(cB x).c 5=.int x.bill.tenor.kind:=_root_.id rfl
@[simp] theorem atp (x:File):(cB x).c 8=.int x.bill.day:=_root_.id rfl
@[simp] theorem ati (x:File):(cB x).c 14=.int x.bill.parts:=_root_.id rfl
@[simp] theorem atj (x:File):(cB x).c 15=signs x.signs:=_root_.id rfl
@[simp] theorem atk (x:File):(cB x).c 16=alters x.alters:=_root_.id rfl
@[simp] theorem atl (x:File):(cB x).c 17=acts x.acts:=_root_.id rfl
@[simp] theorem atm (x:File):(cB x).c 18=facts x.facts:=_root_.id rfl
def files (l:List File):D:=.list (l.map cB)
@[simp] theorem awJ (l:List File):(files l).l=l.map cB:=_root_.id rfl
abbrev arQ:Ty:=.agg [.int .i64,.int .i64,.int .i64,.int .i64,.int .i64,.int .i64,.int .i64,.int .i64,.int .i64,.int .i64,.int .i64,.int .i64,.int .i64,.int .i64,.int .i64,.slice Ss,.slice Sg,.slice Sf,.slice Sk]
def File.OK (x:File):Prop:=Bill.OK x.bill∧(x.signs.length≤maxLen∧∀y,y∈x.signs→Sign.OK y)∧(x.alters.length≤maxLen∧∀y,y∈x.alters→Alter.OK y)∧(x.acts.length≤maxLen∧∀y,y∈x.acts→Act.OK y)∧(x.facts.length≤maxLen∧∀y,y∈x.facts→Fact.OK y)
theorem afl {d:D}(h:DTy arQ d):∃x:File,d=cB x∧x.OK:=by
 obtain⟨ds,rfl,hs⟩:=h.agg_inv;obtain⟨d0,ds,rfl,h0,hs⟩:=hs.cons_inv;obtain⟨d1,ds,rfl,h1,hs⟩:=hs.cons_inv;obtain⟨d2,ds,rfl,h2,hs⟩:=hs.cons_inv;obtain⟨d3,ds,rfl,h3,hs⟩:=hs.cons_inv;obtain⟨d4,ds,rfl,h4,hs⟩:=hs.cons_inv;obtain⟨d5,ds,rfl,h5,hs⟩:=hs.cons_inv;obtain⟨d6,ds,rfl,h6,hs⟩:=hs.cons_inv;obtain⟨d7,ds,rfl,h7,hs⟩:=hs.cons_inv;obtain⟨d8,ds,rfl,h8,hs⟩:=hs.cons_inv;obtain⟨d9,ds,rfl,h9,hs⟩:=hs.cons_inv;obtain⟨d10,ds,rfl,gj,hs⟩:=hs.cons_inv;obtain⟨d11,ds,rfl,lI,hs⟩:=hs.cons_inv;obtain⟨d12,ds,rfl,uG,hs⟩:=hs.cons_inv;obtain⟨d13,ds,rfl,h13,hs⟩:=hs.cons_inv;obtain⟨d14,ds,rfl,h14,hs⟩:=hs.cons_inv;obtain⟨d15,ds,rfl,Ge,hs⟩:=hs.cons_inv;obtain⟨d16,ds,rfl,qO,hs⟩:=hs.cons_inv;obtain⟨d17,ds,rfl,qP,hs⟩:=hs.cons_inv;obtain⟨d18,ds,rfl,ye,hs⟩:=hs.cons_inv;obtain rfl:=hs.nil_inv;obtain⟨n0,rfl,b0⟩:=h0.i64_inv;obtain⟨n1,rfl,b1⟩:=h1.i64_inv;obtain⟨n2,rfl,b2⟩:=h2.i64_inv;obtain⟨n3,rfl,b3⟩:=h3.i64_inv;obtain⟨n4,rfl,b4⟩:=h4.i64_inv;obtain⟨n5,rfl,b5⟩:=h5.i64_inv;obtain⟨n6,rfl,b6⟩:=h6.i64_inv;obtain⟨n7,rfl,b7⟩:=h7.i64_inv;obtain⟨n8,rfl,b8⟩:=h8.i64_inv;obtain⟨n9,rfl,b9⟩:=h9.i64_inv;obtain⟨n10,rfl,b10⟩:=gj.i64_inv;obtain⟨n11,rfl,b11⟩:=lI.i64_inv;obtain⟨n12,rfl,b12⟩:=uG.i64_inv;obtain⟨n13,rfl,b13⟩:=h13.i64_inv;obtain⟨n14,rfl,b14⟩:=h14.i64_inv;obtain⟨n15,rfl,b15,c15⟩:=apd Ge;obtain⟨n16,rfl,b16,c16⟩:=aca qO;obtain⟨n17,rfl,b17,c17⟩:=ab0 qP;obtain⟨n18,rfl,b18,c18⟩:=afh ye;exact⟨⟨⟨n0,n1,n2,n3,n4,⟨n5,n6,n7⟩,n8,n9,n10,n11,n12,n13,n14⟩,n15,n16,n17,n18⟩,rfl,⟨⟨b0,b1,b2,b3,b4,⟨b5,b6,b7⟩,b8,b9,b10,b11,b12,b13,b14⟩,⟨b15,c15⟩,⟨b16,c16⟩,⟨b17,c17⟩,⟨b18,c18⟩⟩⟩
structure Case where
 file:File
 sign:Int
 holder:Int
 defence:Int
 due:Int
 day:Int
 deriving Inhabited
def eT (x:Case):D:=.agg [.int x.file.bill.drawer,.int x.file.bill.drawee,.int x.file.bill.payee,.int x.file.bill.sum,.int x.file.bill.currency,.int x.file.bill.tenor.kind,.int x.file.bill.tenor.n,.int x.file.bill.tenor.unit,.int x.file.bill.day,.int x.file.bill.city,.int x.file.bill.pay,.int x.file.bill.need,.int x.file.bill.rate,.int x.file.bill.flags,.int x.file.bill.parts,signs x.file.signs,alters x.file.alters,acts x.file.acts,facts x.file.facts,.int x.sign,.int x.holder,.int x.defence,.int x.due,.int x.day]
@[simp] theorem asV (x:Case):(eT x).cells=[.int x.file.bill.drawer,.int x.file.bill.drawee,.int x.file.bill.payee,.int x.file.bill.sum,.int x.file.bill.currency,.int x.file.bill.tenor.kind,.int x.file.bill.tenor.n,.int x.file.bill.tenor.unit,.int x.file.bill.day,.int x.file.bill.city,.int x.file.bill.pay,.int x.file.bill.need,.int x.file.bill.rate,.int x.file.bill.flags,.int x.file.bill.parts,signs x.file.signs,alters x.file.alters,acts x.file.acts,facts x.file.facts,.int x.sign,.int x.holder,.int x.defence,.int x.due,.int x.day]:=_root_.id rfl
@[simp] theorem axR (x:Case):D.agg [.int x.file.bill.drawer,.int x.file.bill.drawee,.int x.file.bill.payee,.int x.file.bill.sum,.int x.file.bill.currency,.int x.file.bill.tenor.kind,.int x.file.bill.tenor.n,.int x.file.bill.tenor.unit,.int x.file.bill.day,.int x.file.bill.city,.int x.file.bill.pay,.int x.file.bill.need,.int x.file.bill.rate,.int x.file.bill.flags,.int x.file.bill.parts,signs x.file.signs,alters x.file.alters,acts x.file.acts,facts x.file.facts,.int x.sign,.int x.holder,.int x.defence,.int x.due,.int x.day]=eT x:=_root_.id rfl
@[simp] theorem ab8 (x:Case):iw 24 (eT x)=eT x:=_root_.id rfl
@[simp] theorem anb (x:Case)(a0 a1 a2 a3 a4 a5 a6 a7 a8 a9 nr ns a12 nu nv qo qp qq qs JR a20 a21 a22 JS:D):D.agg (cr [a0,a1,a2,a3,a4,a5,a6,a7,a8,a9,nr,ns,a12,nu,nv,qo,qp,qq,qs,JR,a20,a21,a22,JS] 0 [.int x.file.bill.drawer,.int x.file.bill.drawee,.int x.file.bill.payee,.int x.file.bill.sum,.int x.file.bill.currency,.int x.file.bill.tenor.kind,.int x.file.bill.tenor.n,.int x.file.bill.tenor.unit,.int x.file.bill.day,.int x.file.bill.city,.int x.file.bill.pay,.int x.file.bill.need,.int x.file.bill.rate,.int x.file.bill.flags,.int x.file.bill.parts,signs x.file.signs,alters x.file.alters,acts x.file.acts,facts x.file.facts,.int x.sign,.int x.holder,.int x.defence,.int x.due,.int x.day])=eT x:=_root_.id rfl
@[simp] theorem asU (x:Case):(eT x).c 9=.int x.file.bill.city:=_root_.id rfl
@[simp] theorem asN (x:Case):(eT x).c 10=.int x.file.bill.pay:=_root_.id rfl
@[simp] theorem asO (x:Case):(eT x).c 15=signs x.file.signs:=_root_.id rfl
@[simp] theorem asP (x:Case):(eT x).c 19=.int x.sign:=_root_.id rfl
@[simp] theorem asQ (x:Case):(eT x).c 20=.int x.holder:=_root_.id rfl
@[simp] theorem asR (x:Case):(eT x).c 21=.int x.defence:=_root_.id rfl
@[simp] theorem asS (x:Case):(eT x).c 22=.int x.due:=_root_.id rfl
@[simp] theorem asT (x:Case):(eT x).c 23=.int x.day:=_root_.id rfl
def cases(l:List Case):D:=.list (l.map eT)
structure Cell where
 known:Bool
 n:Int
 deriving DecidableEq,Inhabited
def cN (x:Cell):D:=.agg [.bool x.known,.int x.n]
@[simp] theorem asY (x:Cell):(cN x).cells=[.bool x.known,.int x.n]:=_root_.id rfl
@[simp] theorem axS (x:Cell):D.agg [.bool x.known,.int x.n]=cN x:=_root_.id rfl
@[simp] theorem asW (x:Cell):(cN x).c 0=.bool x.known:=_root_.id rfl
@[simp] theorem asX (x:Cell):(cN x).c 1=.int x.n:=_root_.id rfl
def cells (l:List Cell):D:=.list (l.map cN)
@[simp] theorem avv (l:List Cell):(cells l).l=l.map cN:=_root_.id rfl
@[simp] theorem avu (l:List Cell):(cells l).cells=[cells l]:=_root_.id rfl
structure Said where
 cell:Cell
 order:Int
 path:List Int
 err:Int
 deriving Inhabited
def nI (x:Said):D:=.agg [.bool x.cell.known,.int x.cell.n,.int x.order,ints x.path,.int x.err]
@[simp] theorem at1 (x:Said):(nI x).cells=[.bool x.cell.known,.int x.cell.n,.int x.order,ints x.path,.int x.err]:=_root_.id rfl
@[simp] theorem ax5 (x:Said):D.agg [.bool x.cell.known,.int x.cell.n,.int x.order,ints x.path,.int x.err]=nI x:=_root_.id rfl
@[simp] theorem au8 (x:Said):iw 5 (nI x)=nI x:=_root_.id rfl
structure Effect where
 sign:Int
 kind:Int
 firm:Int
 binds:Int
 text:Int
 sum:Int
 recourse:Bool
 deriving DecidableEq,Inhabited
def qC (x:Effect):D:=.agg [.int x.sign,.int x.kind,.int x.firm,.int x.binds,.int x.text,.int x.sum,.bool x.recourse]
@[simp] theorem atd (x:Effect):(qC x).cells=[.int x.sign,.int x.kind,.int x.firm,.int x.binds,.int x.text,.int x.sum,.bool x.recourse]:=_root_.id rfl
@[simp] theorem axV (x:Effect):D.agg [.int x.sign,.int x.kind,.int x.firm,.int x.binds,.int x.text,.int x.sum,.bool x.recourse]=qC x:=_root_.id rfl
@[simp] theorem as9 (x:Effect):(qC x).c 1=.int x.kind:=_root_.id rfl
@[simp] theorem ata (x:Effect):(qC x).c 2=.int x.firm:=_root_.id rfl
@[simp] theorem atb (x:Effect):(qC x).c 3=.int x.binds:=_root_.id rfl
@[simp] theorem atc (x:Effect):(qC x).c 6=.bool x.recourse:=_root_.id rfl
def A4 (l:List Effect):D:=.list (l.map qC)
@[simp] theorem avX (l:List Effect):(A4 l).l=l.map qC:=_root_.id rfl
@[simp] theorem ayX (a0 x0:D):cr [a0] 0 [x0]=[x0]:=_root_.id rfl
@[simp] theorem ayY (a0 a1 x0 x1:D):cr [a0,a1] 0 [x0,x1]=[x0,x1]:=_root_.id rfl
@[simp] theorem ayZ (a0 a1 a2 x0 x1 x2:D):cr [a0,a1,a2] 0 [x0,x1,x2]=[x0,x1,x2]:=_root_.id rfl
@[simp] theorem ay0 (a0 a1 a2 a3 x0 x1 x2 x3:D):cr [a0,a1,a2,a3] 0 [x0,x1,x2,x3]=[x0,x1,x2,x3]:=_root_.id rfl
@[simp] theorem ay1 (a0 a1 a2 a3 a4 x0 x1 x2 x3 x4:D):cr [a0,a1,a2,a3,a4] 0 [x0,x1,x2,x3,x4]=[x0,x1,x2,x3,x4]:=_root_.id rfl
@[simp] theorem ay2 (a0 a1 a2 a3 a4 a5 x0 x1 x2 x3 x4 x5:D):cr [a0,a1,a2,a3,a4,a5] 0 [x0,x1,x2,x3,x4,x5]=[x0,x1,x2,x3,x4,x5]:=_root_.id rfl
@[simp] theorem ay3 (a0 a1 a2 a3 a4 a5 a6 x0 x1 x2 x3 x4 x5 x6:D):cr [a0,a1,a2,a3,a4,a5,a6] 0 [x0,x1,x2,x3,x4,x5,x6]=[x0,x1,x2,x3,x4,x5,x6]:=_root_.id rfl
@[simp] theorem ay4 (a0 a1 a2 a3 a4 a5 a6 a7 a8 x0 x1 x2 x3 x4 x5 x6 x7 x8:D):cr [a0,a1,a2,a3,a4,a5,a6,a7,a8] 0 [x0,x1,x2,x3,x4,x5,x6,x7,x8]=[x0,x1,x2,x3,x4,x5,x6,x7,x8]:=_root_.id rfl
end Rm
