/-
  How the functions of this seat are called.
-/
import Derived.Test.YtipjidjopglknaaGreatDoorProg
import Derived.Test.YtipjidjopglknaaGreatDoorEAJ
set_option linter.unusedVariables false
set_option maxRecDepth 100000
noncomputable section
namespace Rm
open Go Go.Proofs Cx
abbrev I:Ty:=.int .i64
abbrev Y0:Ty:=.agg [.str,I,I,(.slice I),(.slice I),(.slice I)]
abbrev Y1:Ty:=.agg [I]
abbrev Y2:Ty:=.agg [.str,I,I]
abbrev Y3:Ty:=.agg [I,I,.bool]
abbrev Y4:Ty:=.agg [I,I,I,(.slice .trm)]
abbrev Y5:Ty:=.agg [.str,.bool,(.slice Y3),(.slice Y4)]
abbrev Y6:Ty:=.agg [I,I,I]
abbrev Y7:Ty:=.agg [I,I,I,I,I]
abbrev Y8:Ty:=.agg [(.slice .str),(.slice Y0),(.slice Y1),(.slice Y2),(.slice Y5),(.slice Y6),(.slice Y7),(.slice Y6)]
abbrev Y9:Ty:=.agg [I,I,I,I,I,I,I,I,I]
abbrev qP:Ty:=.agg [I,I]
abbrev lg:Ty:=.agg [I,I,I,I,I,I,I,I,I,I,I,I,I,I,I,(.slice Y9),(.slice qP),(.slice Y9),(.slice Y6),I,I,I,I,I]
abbrev nT:Ty:=.agg [I,I,I,I,I,I,I,I,I,I,I,I,I,I,I,(.slice Y9),(.slice qP),(.slice Y9),(.slice Y6)]
abbrev uL:Ty:=.agg [.bool,I,I,(.slice I),I]
abbrev jJ:Ty:=.agg [.bool,I]
abbrev SY:Ty:=.agg [I,I,I,I,I,I,I,I,I,I,I,I,I,I,I]
abbrev pH:Ty:=.agg [I,I,(.slice .trm)]
abbrev SZ:Ty:=.agg [(.slice jJ)]
abbrev Y18:Ty:=.agg [(.slice I),I]
def iS:List (Nat×Sig):=[
 (4,⟨[Y8,I,I,lg,I],.bool,.dat⟩),
 (6,⟨[],.bool,.dat⟩),
 (7,⟨[Y8,nT],.bool,.dat⟩),
 (8,⟨[Y8,I,I,lg],uL,.dat⟩),
 (10,⟨[Y8,I,I,nT,I],uL,.dat⟩),
 (12,⟨[uL,uL],.bool,.dat⟩),
 (13,⟨[uL],I,.dat⟩),
 (15,⟨[uL],I,.dat⟩),
 (17,⟨[(.slice I),(.slice I)],.bool,.dat⟩),
 (18,⟨[Y8,I,lg],(.slice I),.dat⟩),
 (20,⟨[Y8,I,I,lg],(.slice I),.dat⟩),
 (22,⟨[Y8,I,nT,I],I,.dat⟩),
 (24,⟨[nT,I],nT,(.rows [.dat I,.dat I,.dat I,.dat I,.dat I,.dat I,.dat I,.dat I,.dat I,.dat I,.dat I,.dat I,.dat I,.dat I,.dat I,.row 88 Y9,.row 99 qP,.row 97 Y9,.row 67 Y6])⟩),
 (26,⟨[Y8,lg],(.slice jJ),.dat⟩),
 (28,⟨[],Y8,.dat⟩),
 (29,⟨[nT],lg,.dat⟩),
 (30,⟨[I],nT,.dat⟩),
 (31,⟨[Y8,nT],.bool,.dat⟩),
 (32,⟨[Y8],I,.dat⟩),
 (33,⟨[Y8,I,I,lg],(.tup [uL,(.slice jJ)]),.dat⟩),
 (34,⟨[Y5,I,(.slice jJ)],(.tup [jJ,I]),.dat⟩),
 (39,⟨[Y8,lg],(.tup [lg,(.slice jJ)]),.dat⟩),
 (40,⟨[Y8,I,lg],(.nsl I),.dat⟩),
 (42,⟨[Y5,I,(.slice jJ)],(.slice I),.dat⟩),
 (44,⟨[Y8,SY,I,I],(.tup [I,I]),.dat⟩),
 (45,⟨[nT],I,.dat⟩),
 (49,⟨[I,I],.bool,.dat⟩),
 (55,⟨[(.slice qP),(.fn [qP] .bool)],.bool,.dat⟩),
 (56,⟨[qP,(.ref lg)],.bool,.dat⟩),
 (57,⟨[Y8,I],I,.dat⟩),
 (58,⟨[.bool],jJ,.dat⟩),
 (59,⟨[nT,I,I],jJ,.dat⟩),
 (61,⟨[Y8],.bool,.dat⟩),
 (62,⟨[nT],.bool,.dat⟩),
 (63,⟨[Y5],.bool,.dat⟩),
 (64,⟨[Y8],I,.dat⟩),
 (65,⟨[Y8],I,.dat⟩),
 (66,⟨[Y8],I,.dat⟩),
 (67,⟨[Y8],I,.dat⟩),
 (68,⟨[Y8],I,.dat⟩),
 (69,⟨[I],(.tup [I,.bool]),.dat⟩),
 (70,⟨[Y8,I,I,(.slice I)],(.tup [(.slice I),I]),.dat⟩),
 (71,⟨[Y5,I],(.tup [pH,I]),.dat⟩),
 (72,⟨[pH,(.slice jJ)],jJ,.dat⟩),
 (74,⟨[I,I,I],.bool,.dat⟩),
 (81,⟨[(.slice I),I],.bool,.dat⟩),
 (82,⟨[pH,(.slice jJ)],(.slice I),.dat⟩),
 (84,⟨[Y8],I,.dat⟩),
 (85,⟨[Y8,I],.bool,.dat⟩),
 (86,⟨[I],.bool,.dat⟩),
 (87,⟨[Y6],.bool,.dat⟩),
 (88,⟨[Y8,SY,I],(.tup [I,I]),.dat⟩),
 (89,⟨[Y8,I,I],(.tup [I,I]),.dat⟩),
 (90,⟨[(.slice I)],I,.dat⟩),
 (99,⟨[Y8,I,I],(.tup [I,I]),.dat⟩),
 (104,⟨[(.slice qP),(.fn [qP] .bool)],I,.dat⟩),
 (105,⟨[I,I],.bool,.dat⟩),
 (107,⟨[pH],.bool,.dat⟩),
 (108,⟨[(.slice .str),I],I,.dat⟩),
 (109,⟨[Y8,Y0],.bool,.dat⟩),
 (110,⟨[Y5],.bool,.dat⟩),
 (111,⟨[Y8,I,I,(.slice I)],.bool,.dat⟩),
 (112,⟨[Y8,I,I,(.slice I)],(.tup [I,.bool]),.dat⟩),
 (113,⟨[(.slice Y4),(.fn [Y4] .bool)],I,.dat⟩),
 (114,⟨[Y4,(.ref I)],.bool,.dat⟩),
 (115,⟨[pH],(.tup [I,I]),.dat⟩),
 (116,⟨[SZ,pH],(.tup [jJ,(.slice I)]),.dat⟩),
 (124,⟨[(.slice I),I],I,.dat⟩),
 (128,⟨[Y8],(.tup [(.slice .str),(.slice .str),(.slice .str)]),.dat⟩),
 (129,⟨[(.slice .str),I,(.fn [I] .bool)],I,.dat⟩),
 (130,⟨[I],.bool,.dat⟩),
 (131,⟨[I,(.ref Y8)],.bool,.dat⟩),
 (132,⟨[Y8,Y0],.bool,.dat⟩),
 (133,⟨[I,(.ref Y8)],.bool,.dat⟩),
 (134,⟨[I,(.ref Y8)],.bool,.dat⟩),
 (135,⟨[Y5],.bool,.dat⟩),
 (136,⟨[Y8],I,.dat⟩),
 (137,⟨[Y8],I,.dat⟩),
 (138,⟨[I,Y6],(.tup [I,I]),.dat⟩),
 (139,⟨[Y8,I,I],I,.dat⟩),
 (140,⟨[Y0,I],(.tup [I,I]),.dat⟩),
 (146,⟨[pH,I,I],I,.dat⟩),
 (147,⟨[.str],.bool,.dat⟩),
 (148,⟨[(.slice .str),I,.str],.bool,.dat⟩),
 (149,⟨[(.slice I),I,I],.bool,.dat⟩),
 (150,⟨[(.slice I),(.fn [I] .bool)],.bool,.dat⟩),
 (151,⟨[I,(.ref I)],.bool,.dat⟩),
 (152,⟨[pH,I],I,.dat⟩),
 (153,⟨[pH],(.tup [I,I]),.dat⟩),
 (154,⟨[SZ,I],jJ,.dat⟩),
 (155,⟨[I,(.slice jJ)],jJ,.dat⟩),
 (156,⟨[(.slice (.slice I))],(.slice I),.dat⟩),
 (163,⟨[(.slice .str),I],I,.dat⟩),
 (164,⟨[(.slice I),I,I],.bool,.dat⟩),
 (165,⟨[I,I],(.tup [I,I]),.dat⟩),
 (166,⟨[I],.bool,.dat⟩),
 (167,⟨[Y0,I,I],(.fn [(.fn [I] .bool)] (.tup [])),.dat⟩),
 (172,⟨[(.int .u8)],.bool,.dat⟩),
 (173,⟨[(.slice I),(.fn [I] .bool)],I,.dat⟩),
 (174,⟨[pH],(.tup [I,I]),.dat⟩),
 (175,⟨[I],Y18,.dat⟩),
 (176,⟨[I],(.tup [I,.bool]),.dat⟩),
 (177,⟨[.bool],jJ,.dat⟩),
 (178,⟨[I],I,.dat⟩),
 (179,⟨[I,I,I],I,.dat⟩),
 (180,⟨[.nils .bool,I],(.slice I),(.row 3 I)⟩),
 (199,⟨[.str],.bool,.dat⟩),
 (200,⟨[(.slice .str),.str],.bool,.dat⟩),
 (201,⟨[I],(.tup [I,I,I]),.dat⟩),
 (202,⟨[I,I,I],(.tup [I,I]),.dat⟩),
 (203,⟨[I,I],I,.dat⟩),
 (205,⟨[Y0,I],.bool,.dat⟩),
 (209,⟨[I,I],I,.dat⟩),
 (215,⟨[(.slice .str),.str],I,.dat⟩),
 (216,⟨[I,I,I],I,.dat⟩),
 (217,⟨[(.int .u64),(.int .u64)],(.tup [(.int .u64),(.int .u64)]),.dat⟩)]
def A9:List (Nat×CSig):=[
 (56,⟨[(.ref lg)],[qP],.bool⟩),
 (114,⟨[(.ref I)],[Y4],.bool⟩),
 (130,⟨[],[I],.bool⟩),
 (131,⟨[(.ref Y8)],[I],.bool⟩),
 (133,⟨[(.ref Y8)],[I],.bool⟩),
 (134,⟨[(.ref Y8)],[I],.bool⟩),
 (151,⟨[(.ref I)],[I],.bool⟩),
 (204,⟨[(.ref I),(.ref I),(.ref Y0)],[(.fn [I] .bool)],(.tup [])⟩)]
def ctx:Ctx:={P:=Tryz.prog,cap:=aY A9,sig:=aY iS,ali:=fun _=>none,glob:=Jh 0 [6,7,10,12,13,14,15,16,20,21]}
def dA:Ctx:={ctx with glob:=fun _=>none}
abbrev Ja (i:Nat):Sig:=(aY iS i).getD default
def cF (a b:List Nat)(f:Func)(i:Nat)(l:List Nat):Option PC:=eW {ctx with fr:=a,nh:=b} f (Ja i) l
theorem bj {o:Option PC}{t:PT}{l:List (Shp×PT)}(h:o.map told=some (t,l)):tree (ae o)=t:=cd (F:=fun _=>(t,l)) h
theorem aF (o:Option PC){p:PT×List (Shp×PT)}(h:o.map told=some p):o=some (ae o):=aoq (F:=fun _=>p) h
theorem aI (l a b:List Nat){f:Nat}{fn:Func}{c:PC}(h0:ctx.P.funcs[f]?=some fn)(h1:ctx.sig f=some (Ja f))(h2:eW {ctx with fr:=a,nh:=b} fn (Ja f) l=some c):∃fn s ids fr nh,ctx.P.funcs[f]?=some fn∧ctx.sig f=some s∧eW {ctx with fr:=fr,nh:=nh} fn s ids=some c:=⟨fn,Ja f,l,a,b,h0,h1,h2⟩
abbrev Ds:PE:=.setc (.con (.agg [(.list []),(.list []),(.list []),(.list []),(.list []),(.list []),(.list []),(.list [])])) 0 (.mk [(.lst [(.con (.v (.string ⟨#[102,114,97,110,99]⟩)))]),(.lst [(.mk [(.con (.v (.string ⟨#[76,121,111,110]⟩))),(pi 0),(pi 0),pL,pL,pL]),(.mk [(.con (.v (.string ⟨#[76,111,110,100,111,110]⟩))),(pi 1),(pi 0),pL,pL,pL])]),(.lst [(.mk [(pi 0)])]),(.lst [(.mk [(.con (.v (.string ⟨#[97]⟩))),(pi 0),(pi 0)]),(.mk [(.con (.v (.string ⟨#[98]⟩))),(pi 1),(pi 0)])]),(.lst [(.mk [(pc (.setc (.con (.agg [(.v (.string ⟨#[]⟩)),(.bool false),(.list []),(.list [])])) 0 (.mk [(.con (.v (.string ⟨#[103,101,110,101,118,97]⟩))),pF,pL,(.lst [(.mk [(pi 2),(.mk [(pc (.setc (.con (.agg [(.int 0),(.int 0),(.list [])])) 0 (.mk [(pi 2),(pi 15),pL])) 0),(pc (.setc (.con (.agg [(.int 0),(.int 0),(.list [])])) 0 (.mk [(pi 2),(pi 15),pL])) 1),pL])]),(.mk [(pi 6),(.mk [(pi 0),(pi 0),pL])])])])) 0),(pc (.setc (.con (.agg [(.v (.string ⟨#[]⟩)),(.bool false),(.list []),(.list [])])) 0 (.mk [(.con (.v (.string ⟨#[103,101,110,101,118,97]⟩))),pF,pL,(.lst [(.mk [(pi 2),(.mk [(pc (.setc (.con (.agg [(.int 0),(.int 0),(.list [])])) 0 (.mk [(pi 2),(pi 15),pL])) 0),(pc (.setc (.con (.agg [(.int 0),(.int 0),(.list [])])) 0 (.mk [(pi 2),(pi 15),pL])) 1),pL])]),(.mk [(pi 6),(.mk [(pi 0),(pi 0),pL])])])])) 1),pL,(pc (.setc (.con (.agg [(.v (.string ⟨#[]⟩)),(.bool false),(.list []),(.list [])])) 0 (.mk [(.con (.v (.string ⟨#[103,101,110,101,118,97]⟩))),pF,pL,(.lst [(.mk [(pi 2),(.mk [(pc (.setc (.con (.agg [(.int 0),(.int 0),(.list [])])) 0 (.mk [(pi 2),(pi 15),pL])) 0),(pc (.setc (.con (.agg [(.int 0),(.int 0),(.list [])])) 0 (.mk [(pi 2),(pi 15),pL])) 1),pL])]),(.mk [(pi 6),(.mk [(pi 0),(pi 0),pL])])])])) 3)]),(aB 4 (.setc (.con (.agg [(.v (.string ⟨#[]⟩)),(.bool false),(.list []),(.list [])])) 0 (.mk [(.con (.v (.string ⟨#[108,111,110,100,111,110]⟩))),pF,(.lst [(.mk [(pi 2),(pi 1),pF])]),(.lst [(.mk [(pi 2),(.mk [(pc (.setc (.con (.agg [(.int 0),(.int 0),(.list [])])) 0 (.mk [(pi 4),(pi 0),(.lst [(.mk [(pc (.setc (.con (.agg [(.int 0),(.int 0),(.list [])])) 0 (.mk [(pi 2),(pi 15),pL])) 0),(pc (.setc (.con (.agg [(.int 0),(.int 0),(.list [])])) 0 (.mk [(pi 2),(pi 15),pL])) 1),pL]),(.mk [(pi 2),(pi 17),pL])])])) 0),(pc (.setc (.con (.agg [(.int 0),(.int 0),(.list [])])) 0 (.mk [(pi 4),(pi 0),(.lst [(.mk [(pc (.setc (.con (.agg [(.int 0),(.int 0),(.list [])])) 0 (.mk [(pi 2),(pi 15),pL])) 0),(pc (.setc (.con (.agg [(.int 0),(.int 0),(.list [])])) 0 (.mk [(pi 2),(pi 15),pL])) 1),pL]),(.mk [(pi 2),(pi 17),pL])])])) 1),(pc (.setc (.con (.agg [(.int 0),(.int 0),(.list [])])) 0 (.mk [(pi 4),(pi 0),(.lst [(.mk [(pc (.setc (.con (.agg [(.int 0),(.int 0),(.list [])])) 0 (.mk [(pi 2),(pi 15),pL])) 0),(pc (.setc (.con (.agg [(.int 0),(.int 0),(.list [])])) 0 (.mk [(pi 2),(pi 15),pL])) 1),pL]),(.mk [(pi 2),(pi 17),pL])])])) 2)])]),(.mk [(pi 6),(.mk [(pi 0),(pi 3),pL])])])])))]),pL,pL,pL])
abbrev wz:PE:=.ai .quo .i64 (bZ (aP (bZ (.ai .rem .i64 (aP r0 (pi 730425)) (pi 146097)) (.ai .quo .i64 (.ai .rem .i64 (aP r0 (pi 730425)) (pi 146097)) (pi 1460))) (.ai .quo .i64 (.ai .rem .i64 (aP r0 (pi 730425)) (pi 146097)) (pi 36524))) (.ai .quo .i64 (.ai .rem .i64 (aP r0 (pi 730425)) (pi 146097)) (pi 146096))) (pi 365)
abbrev jX:PE:=.setc (.con (.agg [(.int 0),(.int 0),(.int 0),(.int 0),(.int 0),(.int 0),(.int 0),(.int 0),(.int 0),(.int 0),(.int 0),(.int 0),(.int 0),(.int 0),(.int 0),(.list []),(.list []),(.list []),(.list [])])) 0 (.mk [(aB 15 (.setc JD 0 (.mk [(pi 0),(pi 1),(pi 0),(pi 5),(pi 0),(.mk [(pi 3),(pi 10),(pi 0)]),(pi 2),r0,(pi 1),(pi (-1)),(pi 0),(pi 1),(pi 1)]))),(.lst [(aB 9 (.setc z9 0 (.mk [(pi 0),(pi 0),(pi 0),(pi (-1)),(pi (-1)),(pi 0),(pi 2),r0,(pi 0)])))]),pL,pL,(.lst [(.mk [(pi 0),(pi 0),(pi 1)])])])
abbrev fE:PE:=.con (.agg [(.bool false),(.int 0)])
abbrev Is:PE:=.ai .quo .i64 (aP (.ai .mul .i64 (pi 5) (bZ (.ai .rem .i64 (aP r0 (pi 730425)) (pi 146097)) (bZ (aP (.ai .mul .i64 (pi 365) wz) (.ai .quo .i64 wz (pi 4))) (.ai .quo .i64 wz (pi 100))))) (pi 2)) (pi 153)
abbrev qt:PE:=.deref (.con (.ref (.agg [(.int 6),(.int 7),(.int 10),(.int 12),(.int 13),(.int 14),(.int 15),(.int 16),(.int 20),(.int 21)])))
abbrev Iu:PE:=.put (.put (.put (.put (.con (.map [])) (pi 7) (bk (.ai .and .i64 (pc o6 13) (pi 1)) (pi 0))) (pi 8) (peq (pc o6 2) (pi (-1)))) (pi 9) (bk (.ai .and .i64 (pc o6 13) (pi 4)) (pi 0))) (pi 10) (bk (.ai .and .i64 (pc o6 13) (pi 2)) (pi 0))
abbrev oY:PE:=.con (.agg [(.bool false),(.int 0),(.int 0),(.list []),(.int 0)])
abbrev jY:PE:=.con (.agg [(.int 0),(.int 0),(.list [])])
abbrev Ik:PE:=.con (.agg [(.int 0),(.int 0),(.int 0),(.int 0),(.int 0),(.int 0),(.int 0),(.int 0),(.int 0),(.int 0),(.int 0),(.int 0),(.int 0),(.int 0),(.int 0),(.list []),(.list []),(.list []),(.list [])])
abbrev kT:PE:=.con (.agg [(.list []),(.int 0)])
abbrev Ow:PE:=.con (.agg [(.int 0),(.int 0),(.int 0),(.int 0),(.int 0),(.int 0),(.int 0),(.int 0),(.int 0),(.int 0),(.int 0),(.int 0),(.int 0),(.int 0),(.int 0),(.list []),(.list []),(.list []),(.list []),(.int 0),(.int 0),(.int 0),(.int 0),(.int 0)])
abbrev cX:PE:=pi 4294967296
abbrev zS:PE:=.mk [(pc (.setc fE 0 fS) 0),(pc (.setc fE 0 fS) 1)]
abbrev zT:PE:=.setc z9 0 (pn (pc (.mk [r2]) 15) (pc (.mk [r2]) 19))
abbrev jC:PE:=.setc (.mk [r3]) 18 pL
abbrev Ox:PE:=.put (.put (.put (.con (.map [])) (pi 0) (pc o6 3)) (pi 1) (pc o6 14)) (pi 2) (pc o6 5)
abbrev Il:PE:=.pick (.pick (peq (.tget rY 0) (pi 0)) (pc cA 0) pF) (.setc cA 1 (.mn (.mx (pc cA 1) (pi 0)) (pi 20000))) cA
abbrev Dt:PE:=.mk [(pc (.setc o4 0 (.mk [pF,(pi 0)])) 0),(pc (.setc o4 0 (.mk [pF,(pi 0)])) 1)]
abbrev Io:PE:=.con (.agg [(.int 0),(.int 0),(.bool false)])
abbrev Zn:PE:=.ai .add .u64 (.ai .mul .u64 (.ai .shr .u64 r0 (.con (.v (.int .u64 32)))) (.ai .and .u64 r1 (.con (.v (.int .u64 4294967295))))) (.ai .shr .u64 (.ai .mul .u64 (.ai .and .u64 r0 (.con (.v (.int .u64 4294967295)))) (.ai .and .u64 r1 (.con (.v (.int .u64 4294967295))))) (.con (.v (.int .u64 32))))
abbrev wA:PE:=.setc (.setc cA 3 (.tget Iy 0)) 4 (.tget Iy 1)
abbrev tT:PE:=pc (.mk [r0]) 2
abbrev Ip:PE:=aP (bZ (aP (.ai .mul .i64 (pi 12) (.tget lN 0)) (.tget lN 1)) (pi 1)) r1
abbrev jW:PE:=pc (.mk [r0]) 0
abbrev kU:PE:=.llen (pc o1 1)
abbrev lL:PE:=aB 8 (.mk [r0])
abbrev Oy:PE:=.mk [(pc (.setc o4 0 (.mk [(pi 0),(pi 0),pL])) 0),(pc (.setc o4 0 (.mk [(pi 0),(pi 0),pL])) 1),pL]
abbrev zU:PE:=.setc z3 0 (pn cj dj)
abbrev wB:PE:=.setc fE 0 (.mk [pT,(pi 1)])
abbrev kV:PE:=.setc o4 0 o5
abbrev mD:PE:=.llen (pc o1 3)
abbrev Zo:PE:=.pick (.pick (peq (.tget iP 0) (.con (.v (.int .u64 0)))) (ao (.tget iP 1) (.con (.v (.int .u64 1099511627776)))) pF) (.conv .i64 (.tget iP 1)) (pi 1099511627776)
abbrev Oz:PE:=aB 5 (.setc o8 0 (.mk [(pc cA 0),(pc cA 1),(pc cA 2),(.o 16394),(pc cA 4)]))
abbrev nA:PE:=.llen (pc o3 2)
abbrev nB:PE:=.llen (pc o1 4)
abbrev Zp:PE:=.pick (.pick (.pick (ao (pc zT 2) (pi 0)) pT (dx (pc zT 2) (.llen (pc (.mk [r0]) 3)))) pT (ao r1 (pi 0))) pT (dx r1 (.llen (pc (.mk [r0]) 4)))
abbrev OA:PE:=.put (.con (.map [])) (pi 7) (bk (.ai .and .i64 (pc o6 13) (pi 1)) (pi 0))
abbrev oV:PE:=pc (.mk [r0]) 1
abbrev Zq:PE:=.app o2 (.lst [(pc (.setc (.con (.agg [(.v (.string ⟨#[]⟩)),(.int 0),(.int 0),(.list []),(.list []),(.list [])])) 0 (pn cj dj)) 0)])
abbrev Du:PE:=bZ (pi 2) (pc (pn o7 (pi 0)) 1)
abbrev qs:PE:=.llen (pc o1 2)
abbrev Iq:PE:=.setc jY 0 (.sub (pn (pc o2 3) lN) 1 3)
abbrev Ir:PE:=.pick (ao r1 (pi 3)) (bZ r0 (pi 1)) r0
abbrev Zr:PE:=.app o4 (.lst [(pc (.setc (.con (.agg [(.v (.string ⟨#[]⟩)),(.bool false),(.list []),(.list [])])) 0 (pn jj pg)) 0)])
abbrev zV:PE:=.con (.v (.int .u64 32))
abbrev Zs:PE:=.setc (.con (.agg [(.list []),(.list []),(.list []),(.list []),(.list []),(.list []),(.list []),(.list [])])) 0 dL
abbrev Zt:PE:=.put (.put (.put Iu (pi 11) (bk OJ OL)) (pi 12) eC) (pi 13) (bk (.ai .and .i64 (pc o8 8) (pi 1)) (pi 0))
abbrev oW:PE:=pn r1 (pi 1)
abbrev OB:PE:=.put (.put Ox (pi 3) (pc o6 12)) (pi 4) (pc o8 0)
abbrev Zu:PE:=.pick (bp (.llen (pc (pn (pc o1 1) r3) 4)) (pi 70)) pT (bp (.llen (pc (pn (pc o1 1) r3) 5)) (pi 210))
abbrev Dv:PE:=.setc oY 0 (.tget eD 0)
abbrev Dw:PE:=.setc Io 0 (pn lN jZ)
abbrev oX:PE:=.llen tT
abbrev Zv:PE:=.app o3 (.lst [(pc (.setc (.con (.agg [(.v (.string ⟨#[]⟩)),(.int 0),(.int 0)])) 0 (pn jZ fS)) 0)])
abbrev Zw:PE:=.app o4 (.lst [(pc (.setc (.con (.agg [(.int 0),(.int 0),(.int 0),(.list [])])) 0 (pn fS qw)) 0)])
abbrev tU:PE:=.llen (pc o1 0)
abbrev Zx:PE:=.an (.cb .eql (pc (pn r1 (pi 0)) 0) (pc zS 0)) (.an (peq (pc (pn r1 (pi 0)) 1) (pc zS 1)) pT)
abbrev Zy:PE:=.app (.o 69637) (.lst [(.mk [(pc (.setc z2 0 (pn se mG)) 0),(pc (.setc z2 0 (pn se mG)) 1)])])
abbrev OC:PE:=.setc o4 0 (.mk [(pc o9 0),(pc o9 1),(pc o9 2)])
abbrev Zz:PE:=.pick (.nt (.nt (.an (.an dj pT) (.nt pF)))) (.app (.o 1000) (.lst [(.tup [r5])])) (.o 1000)
abbrev tV:PE:=aP r5 (pi 1)
abbrev tW:PE:=aP r3 (pi 1)
abbrev zW:PE:=bk (pi 100) (pi 0)
abbrev ZA:PE:=.pick (bp (aP Is (pi 3)) (pi 12)) (bZ (aP Is (pi 3)) (pi 12)) (aP Is (pi 3))
abbrev ZB:PE:=.setc o4 0 (.mk [(pc (.setc fE 0 (.tget lM 0)) 0),(pc (.setc fE 0 (.tget lM 0)) 1)])
abbrev Dx:PE:=.setc z9 0 (pn ZQ kW)
abbrev It:PE:=.setc fE 0 (.mk [pT,(pi 0)])
abbrev wC:PE:=pn (pc o1 4) r4
abbrev OD:PE:=peq (.sidx r0 r3) (.con (.v (.int .u8 95)))
abbrev wD:PE:=pc (.mk [r0]) 5
abbrev wE:PE:=pc (.mk [r0]) 4
abbrev ZC:PE:=.pick (.pick (peq (pc zU 0) r1) (bY (pc zU 1) r2) pF) (bY r2 (pc zU 2)) pF
abbrev wF:PE:=.mk [pF,(pi 0)]
abbrev wG:PE:=.llen (pc o1 7)
abbrev Dy:PE:=.con (.agg [(.int 0)])
abbrev ZD:PE:=aP wz (.ai .mul .i64 (pi 400) (.ai .quo .i64 (aP r0 (pi 730425)) (pi 146097)))
abbrev qu:PE:=pn dj eD
abbrev rX:PE:=ao dj eC
abbrev OE:PE:=.app o5 (.lst [(pc (pn (pc o1 1) r6) 0)])
abbrev OF:PE:=.app o4 (.lst [(pc (pn (pc o1 3) r5) 0)])
abbrev zX:PE:=.llen (pc o1 5)
abbrev ZE:PE:=.setc o4 0 (.mk [(pc (.setc fE 0 ID) 0),(pc (.setc fE 0 ID) 1)])
abbrev ZF:PE:=.setc o4 0 (.mk [(pc (.setc fE 0 mE) 0),(pc (.setc fE 0 mE) 1)])
abbrev ZG:PE:=.setc kT 0 (.mk [(.lst [(pi 1),(pi (-1)),(pi (-1))]),(pi (-1))])
abbrev ZH:PE:=.pick (bk (pc o3 22) (pi (-1))) (bZ (pc o8 6) (pc o3 22)) (pi 0)
abbrev OG:PE:=.ai .rem .i64 (pn r8 dL) (pi 100)
abbrev ZI:PE:=.app (.o 77829) (.lst [(.mk [(pc HR 0),(pc HR 1),(pc HR 2)])])
end Rm
