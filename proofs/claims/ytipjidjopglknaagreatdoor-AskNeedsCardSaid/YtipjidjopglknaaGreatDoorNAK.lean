/-
  How the functions of this seat are called.
-/
import Derived.Test.YtipjidjopglknaaGreatDoorProg
import Derived.Test.YtipjidjopglknaaGreatDoorNAJ
set_option linter.unusedVariables false
set_option maxRecDepth 100000
noncomputable section
namespace Rm
open Go Go.Proofs Cx
abbrev I:Ty:=.int .i64
abbrev Y0:Ty:=.agg [.str,I,I,(.slice I),(.slice I),(.slice I)]
abbrev Y1:Ty:=.agg [I]
abbrev Y2:Ty:=.agg [.str,I,I]
abbrev Y3:Ty:=.agg [I,I,.bool]
abbrev Y4:Ty:=.agg [I,I,I,(.slice .trm)]
abbrev Y5:Ty:=.agg [.str,.bool,(.slice Y3),(.slice Y4)]
abbrev Y6:Ty:=.agg [I,I,I]
abbrev Y7:Ty:=.agg [I,I,I,I,I]
abbrev Y8:Ty:=.agg [(.slice .str),(.slice Y0),(.slice Y1),(.slice Y2),(.slice Y5),(.slice Y6),(.slice Y7),(.slice Y6)]
abbrev Y9:Ty:=.agg [I,I,I,I,I,I,I,I,I]
abbrev sv:Ty:=.agg [I,I]
abbrev l9:Ty:=.agg [I,I,I,I,I,I,I,I,I,I,I,I,I,I,I,(.slice Y9),(.slice sv),(.slice Y9),(.slice Y6),I,I,I,I,I]
abbrev gl:Ty:=.agg [I,I,I,I,I,I,I,I,I,I,I,I,I,I,I,(.slice Y9),(.slice sv),(.slice Y9),(.slice Y6)]
abbrev vT:Ty:=.agg [.bool,I,I,(.slice I),I]
abbrev jO:Ty:=.agg [.bool,I]
abbrev GS:Ty:=.agg [I,I,I,I,I,I,I,I,I,I,I,I,I,I,I]
abbrev qM:Ty:=.agg [I,I,(.slice .trm)]
abbrev V3:Ty:=.agg [(.slice jO)]
abbrev Y18:Ty:=.agg [(.slice I),I]
def eE:List (Nat×Sig):=[
 (5,⟨[Y8,I,I,l9,(.int .u16)],.bool,.dat⟩),
 (6,⟨[],.bool,.dat⟩),
 (7,⟨[Y8,gl],.bool,.dat⟩),
 (8,⟨[Y8,I,I,l9],vT,.dat⟩),
 (10,⟨[Y8,I,I,gl,I],vT,.dat⟩),
 (12,⟨[vT,vT],.bool,.dat⟩),
 (13,⟨[vT],I,.dat⟩),
 (15,⟨[vT],I,.dat⟩),
 (17,⟨[(.slice I),(.slice I)],.bool,.dat⟩),
 (18,⟨[Y8,I,l9],(.slice I),.dat⟩),
 (20,⟨[Y8,I,I,l9],(.slice I),.dat⟩),
 (22,⟨[Y8,I,gl,I],I,.dat⟩),
 (24,⟨[gl,I],gl,(.rows [.dat I,.dat I,.dat I,.dat I,.dat I,.dat I,.dat I,.dat I,.dat I,.dat I,.dat I,.dat I,.dat I,.dat I,.dat I,.row 88 Y9,.row 99 sv,.row 97 Y9,.row 67 Y6])⟩),
 (25,⟨[Y8,gl],I,.dat⟩),
 (26,⟨[Y8,l9],(.slice jO),.dat⟩),
 (27,⟨[gl,(.slice Y6)],gl,.dat⟩),
 (28,⟨[],Y8,.dat⟩),
 (29,⟨[gl],l9,.dat⟩),
 (30,⟨[I],gl,.dat⟩),
 (31,⟨[Y8,gl],.bool,.dat⟩),
 (32,⟨[Y8],I,.dat⟩),
 (33,⟨[Y8,I,I,l9],(.tup [vT,(.slice jO)]),.dat⟩),
 (34,⟨[Y5,I,(.slice jO)],(.tup [jO,I]),.dat⟩),
 (39,⟨[Y8,l9],(.tup [l9,(.slice jO)]),.dat⟩),
 (40,⟨[Y8,I,l9],(.nsl I),.dat⟩),
 (42,⟨[Y5,I,(.slice jO)],(.slice I),.dat⟩),
 (44,⟨[Y8,GS,I,I],(.tup [I,I]),.dat⟩),
 (45,⟨[gl],I,.dat⟩),
 (49,⟨[I,I],.bool,.dat⟩),
 (50,⟨[Y8,GS],I,.dat⟩),
 (51,⟨[Y8,gl,I],I,.dat⟩),
 (52,⟨[I,I,I],.bool,.dat⟩),
 (53,⟨[Y8,gl],I,.dat⟩),
 (54,⟨[gl],I,.dat⟩),
 (55,⟨[(.slice sv),(.fn [sv] .bool)],.bool,.dat⟩),
 (56,⟨[sv,(.ref l9)],.bool,.dat⟩),
 (57,⟨[Y8,I],I,.dat⟩),
 (58,⟨[.bool],jO,.dat⟩),
 (59,⟨[gl,I,I],jO,.dat⟩),
 (60,⟨[gl,Y6],gl,.dat⟩),
 (61,⟨[Y8],.bool,.dat⟩),
 (62,⟨[gl],.bool,.dat⟩),
 (63,⟨[Y5],.bool,.dat⟩),
 (64,⟨[Y8],I,.dat⟩),
 (65,⟨[Y8],I,.dat⟩),
 (66,⟨[Y8],I,.dat⟩),
 (67,⟨[Y8],I,.dat⟩),
 (68,⟨[Y8],I,.dat⟩),
 (69,⟨[I],(.tup [I,.bool]),.dat⟩),
 (70,⟨[Y8,I,I,(.slice I)],(.tup [(.slice I),I]),.dat⟩),
 (71,⟨[Y5,I],(.tup [qM,I]),.dat⟩),
 (72,⟨[qM,(.slice jO)],jO,.dat⟩),
 (74,⟨[I,I,I],.bool,.dat⟩),
 (81,⟨[(.slice I),I],.bool,.dat⟩),
 (82,⟨[qM,(.slice jO)],(.slice I),.dat⟩),
 (84,⟨[Y8],I,.dat⟩),
 (85,⟨[Y8,I],.bool,.dat⟩),
 (86,⟨[I],.bool,.dat⟩),
 (87,⟨[Y6],.bool,.dat⟩),
 (88,⟨[Y8,GS,I],(.tup [I,I]),.dat⟩),
 (89,⟨[Y8,I,I],(.tup [I,I]),.dat⟩),
 (90,⟨[(.slice I)],I,.dat⟩),
 (97,⟨[I,I],.bool,.dat⟩),
 (98,⟨[GS],.bool,.dat⟩),
 (99,⟨[Y8,I,I],(.tup [I,I]),.dat⟩),
 (100,⟨[Y8,gl,I],.bool,.dat⟩),
 (101,⟨[Y8,gl,Y9],.bool,.dat⟩),
 (102,⟨[(.slice I)],I,.dat⟩),
 (103,⟨[I,I],I,.dat⟩),
 (104,⟨[(.slice sv),(.fn [sv] .bool)],I,.dat⟩),
 (105,⟨[I,I],.bool,.dat⟩),
 (106,⟨[gl,I,I],jO,.dat⟩),
 (107,⟨[qM],.bool,.dat⟩),
 (108,⟨[(.slice .str),I],I,.dat⟩),
 (109,⟨[Y8,Y0],.bool,.dat⟩),
 (110,⟨[Y5],.bool,.dat⟩),
 (111,⟨[Y8,I,I,(.slice I)],.bool,.dat⟩),
 (112,⟨[Y8,I,I,(.slice I)],(.tup [I,.bool]),.dat⟩),
 (113,⟨[(.slice Y4),(.fn [Y4] .bool)],I,.dat⟩),
 (114,⟨[Y4,(.ref I)],.bool,.dat⟩),
 (115,⟨[qM],(.tup [I,I]),.dat⟩),
 (116,⟨[V3,qM],(.tup [jO,(.slice I)]),.dat⟩),
 (124,⟨[(.slice I),I],I,.dat⟩),
 (128,⟨[Y8],(.tup [(.slice .str),(.slice .str),(.slice .str)]),.dat⟩),
 (129,⟨[(.slice .str),I,(.fn [I] .bool)],I,.dat⟩),
 (130,⟨[I],.bool,.dat⟩),
 (131,⟨[I,(.ref Y8)],.bool,.dat⟩),
 (132,⟨[Y8,Y0],.bool,.dat⟩),
 (133,⟨[I,(.ref Y8)],.bool,.dat⟩),
 (134,⟨[I,(.ref Y8)],.bool,.dat⟩),
 (135,⟨[Y5],.bool,.dat⟩),
 (136,⟨[Y8],I,.dat⟩),
 (137,⟨[Y8],I,.dat⟩),
 (138,⟨[I,Y6],(.tup [I,I]),.dat⟩),
 (139,⟨[Y8,I,I],I,.dat⟩),
 (140,⟨[Y0,I],(.tup [I,I]),.dat⟩),
 (143,⟨[gl,I,(.slice I)],.bool,.dat⟩),
 (144,⟨[gl,I,I],.bool,.dat⟩),
 (145,⟨[I],.bool,.dat⟩),
 (146,⟨[qM,I,I],I,.dat⟩),
 (147,⟨[.str],.bool,.dat⟩),
 (148,⟨[(.slice .str),I,.str],.bool,.dat⟩),
 (149,⟨[(.slice I),I,I],.bool,.dat⟩),
 (150,⟨[(.slice I),(.fn [I] .bool)],.bool,.dat⟩),
 (151,⟨[I,(.ref I)],.bool,.dat⟩),
 (152,⟨[qM,I],I,.dat⟩),
 (153,⟨[qM],(.tup [I,I]),.dat⟩),
 (154,⟨[V3,I],jO,.dat⟩),
 (155,⟨[I,(.slice jO)],jO,.dat⟩),
 (156,⟨[(.slice (.slice I))],(.slice I),.dat⟩),
 (163,⟨[(.slice .str),I],I,.dat⟩),
 (164,⟨[(.slice I),I,I],.bool,.dat⟩),
 (165,⟨[I,I],(.tup [I,I]),.dat⟩),
 (166,⟨[I],.bool,.dat⟩),
 (167,⟨[Y0,I,I],(.fn [(.fn [I] .bool)] (.tup [])),.dat⟩),
 (172,⟨[(.int .u8)],.bool,.dat⟩),
 (173,⟨[(.slice I),(.fn [I] .bool)],I,.dat⟩),
 (174,⟨[qM],(.tup [I,I]),.dat⟩),
 (175,⟨[I],Y18,.dat⟩),
 (176,⟨[I],(.tup [I,.bool]),.dat⟩),
 (177,⟨[.bool],jO,.dat⟩),
 (178,⟨[I],I,.dat⟩),
 (179,⟨[I,I,I],I,.dat⟩),
 (180,⟨[.nils .bool,I],(.slice I),(.row 3 I)⟩),
 (199,⟨[.str],.bool,.dat⟩),
 (200,⟨[(.slice .str),.str],.bool,.dat⟩),
 (201,⟨[I],(.tup [I,I,I]),.dat⟩),
 (202,⟨[I,I,I],(.tup [I,I]),.dat⟩),
 (203,⟨[I,I],I,.dat⟩),
 (205,⟨[Y0,I],.bool,.dat⟩),
 (209,⟨[I,I],I,.dat⟩),
 (215,⟨[(.slice .str),.str],I,.dat⟩),
 (216,⟨[I,I,I],I,.dat⟩),
 (217,⟨[(.int .u64),(.int .u64)],(.tup [(.int .u64),(.int .u64)]),.dat⟩)]
def CA:List (Nat×CSig):=[
 (56,⟨[(.ref l9)],[sv],.bool⟩),
 (114,⟨[(.ref I)],[Y4],.bool⟩),
 (130,⟨[],[I],.bool⟩),
 (131,⟨[(.ref Y8)],[I],.bool⟩),
 (133,⟨[(.ref Y8)],[I],.bool⟩),
 (134,⟨[(.ref Y8)],[I],.bool⟩),
 (151,⟨[(.ref I)],[I],.bool⟩),
 (204,⟨[(.ref I),(.ref I),(.ref Y0)],[(.fn [I] .bool)],(.tup [])⟩)]
def ctx:Ctx:={P:=Tryz.prog,cap:=aV CA,sig:=aV eE,apm:=fun _=>none,glob:=Lq 0 [6,7,10,12,13,14,15,16,20,21]}
def dM:Ctx:={ctx with glob:=fun _=>none}
abbrev Li (i:Nat):Sig:=(aV eE i).getD default
def cF (a b:List Nat)(f:Func)(i:Nat)(l:List Nat):Option PC:=fu {ctx with fr:=a,nh:=b} f (Li i) l
theorem ba {o:Option PC}{t:PT}{l:List (Shp×PT)}(h:o.map told=some (t,l)):tree (ae o)=t:=bN (F:=fun _=>(t,l)) h
theorem aB (o:Option PC){p:PT×List (Shp×PT)}(h:o.map told=some p):o=some (ae o):=asN (F:=fun _=>p) h
theorem aG (l a b:List Nat){f:Nat}{fn:Func}{c:PC}(h0:ctx.P.funcs[f]?=some fn)(h1:ctx.sig f=some (Li f))(h2:fu {ctx with fr:=a,nh:=b} fn (Li f) l=some c):∃fn s ids fr nh,ctx.P.funcs[f]?=some fn∧ctx.sig f=some s∧fu {ctx with fr:=fr,nh:=nh} fn s ids=some c:=⟨fn,Li f,l,a,b,h0,h1,h2⟩
abbrev EZ:PE:=.setc (.con (.agg [(.list []),(.list []),(.list []),(.list []),(.list []),(.list []),(.list []),(.list [])])) 0 (.mk [(.lst [(.con (.v (.string ⟨#[102,114,97,110,99]⟩)))]),(.lst [(.mk [(.con (.v (.string ⟨#[76,121,111,110]⟩))),(pi 0),(pi 0),pL,pL,pL]),(.mk [(.con (.v (.string ⟨#[76,111,110,100,111,110]⟩))),(pi 1),(pi 0),pL,pL,pL])]),(.lst [(.mk [(pi 0)])]),(.lst [(.mk [(.con (.v (.string ⟨#[97]⟩))),(pi 0),(pi 0)]),(.mk [(.con (.v (.string ⟨#[98]⟩))),(pi 1),(pi 0)])]),(.lst [(.mk [(pc (.setc (.con (.agg [(.v (.string ⟨#[]⟩)),(.bool false),(.list []),(.list [])])) 0 (.mk [(.con (.v (.string ⟨#[103,101,110,101,118,97]⟩))),pF,pL,(.lst [(.mk [(pi 2),(.mk [(pc (.setc (.con (.agg [(.int 0),(.int 0),(.list [])])) 0 (.mk [(pi 2),(pi 15),pL])) 0),(pc (.setc (.con (.agg [(.int 0),(.int 0),(.list [])])) 0 (.mk [(pi 2),(pi 15),pL])) 1),pL])]),(.mk [(pi 6),(.mk [(pi 0),(pi 0),pL])])])])) 0),(pc (.setc (.con (.agg [(.v (.string ⟨#[]⟩)),(.bool false),(.list []),(.list [])])) 0 (.mk [(.con (.v (.string ⟨#[103,101,110,101,118,97]⟩))),pF,pL,(.lst [(.mk [(pi 2),(.mk [(pc (.setc (.con (.agg [(.int 0),(.int 0),(.list [])])) 0 (.mk [(pi 2),(pi 15),pL])) 0),(pc (.setc (.con (.agg [(.int 0),(.int 0),(.list [])])) 0 (.mk [(pi 2),(pi 15),pL])) 1),pL])]),(.mk [(pi 6),(.mk [(pi 0),(pi 0),pL])])])])) 1),pL,(pc (.setc (.con (.agg [(.v (.string ⟨#[]⟩)),(.bool false),(.list []),(.list [])])) 0 (.mk [(.con (.v (.string ⟨#[103,101,110,101,118,97]⟩))),pF,pL,(.lst [(.mk [(pi 2),(.mk [(pc (.setc (.con (.agg [(.int 0),(.int 0),(.list [])])) 0 (.mk [(pi 2),(pi 15),pL])) 0),(pc (.setc (.con (.agg [(.int 0),(.int 0),(.list [])])) 0 (.mk [(pi 2),(pi 15),pL])) 1),pL])]),(.mk [(pi 6),(.mk [(pi 0),(pi 0),pL])])])])) 3)]),(ax 4 (.setc (.con (.agg [(.v (.string ⟨#[]⟩)),(.bool false),(.list []),(.list [])])) 0 (.mk [(.con (.v (.string ⟨#[108,111,110,100,111,110]⟩))),pF,(.lst [(.mk [(pi 2),(pi 1),pF])]),(.lst [(.mk [(pi 2),(.mk [(pc (.setc (.con (.agg [(.int 0),(.int 0),(.list [])])) 0 (.mk [(pi 4),(pi 0),(.lst [(.mk [(pc (.setc (.con (.agg [(.int 0),(.int 0),(.list [])])) 0 (.mk [(pi 2),(pi 15),pL])) 0),(pc (.setc (.con (.agg [(.int 0),(.int 0),(.list [])])) 0 (.mk [(pi 2),(pi 15),pL])) 1),pL]),(.mk [(pi 2),(pi 17),pL])])])) 0),(pc (.setc (.con (.agg [(.int 0),(.int 0),(.list [])])) 0 (.mk [(pi 4),(pi 0),(.lst [(.mk [(pc (.setc (.con (.agg [(.int 0),(.int 0),(.list [])])) 0 (.mk [(pi 2),(pi 15),pL])) 0),(pc (.setc (.con (.agg [(.int 0),(.int 0),(.list [])])) 0 (.mk [(pi 2),(pi 15),pL])) 1),pL]),(.mk [(pi 2),(pi 17),pL])])])) 1),(pc (.setc (.con (.agg [(.int 0),(.int 0),(.list [])])) 0 (.mk [(pi 4),(pi 0),(.lst [(.mk [(pc (.setc (.con (.agg [(.int 0),(.int 0),(.list [])])) 0 (.mk [(pi 2),(pi 15),pL])) 0),(pc (.setc (.con (.agg [(.int 0),(.int 0),(.list [])])) 0 (.mk [(pi 2),(pi 15),pL])) 1),pL]),(.mk [(pi 2),(pi 17),pL])])])) 2)])]),(.mk [(pi 6),(.mk [(pi 0),(pi 3),pL])])])])))]),pL,pL,pL])
abbrev xG:PE:=.ai .quo .i64 (bD (aN (bD (.ai .rem .i64 (aN r0 (pi 730425)) (pi 146097)) (.ai .quo .i64 (.ai .rem .i64 (aN r0 (pi 730425)) (pi 146097)) (pi 1460))) (.ai .quo .i64 (.ai .rem .i64 (aN r0 (pi 730425)) (pi 146097)) (pi 36524))) (.ai .quo .i64 (.ai .rem .i64 (aN r0 (pi 730425)) (pi 146097)) (pi 146096))) (pi 365)
abbrev kC:PE:=.setc (.con (.agg [(.int 0),(.int 0),(.int 0),(.int 0),(.int 0),(.int 0),(.int 0),(.int 0),(.int 0),(.int 0),(.int 0),(.int 0),(.int 0),(.int 0),(.int 0),(.list []),(.list []),(.list []),(.list [])])) 0 (.mk [(ax 15 (.setc GA 0 (.mk [(pi 0),(pi 1),(pi 0),(pi 5),(pi 0),(.mk [(pi 3),(pi 10),(pi 0)]),(pi 2),r0,(pi 1),(pi (-1)),(pi 0),(pi 1),(pi 1)]))),(.lst [(ax 9 (.setc z9 0 (.mk [(pi 0),(pi 0),(pi 0),(pi (-1)),(pi (-1)),(pi 0),(pi 2),r0,(pi 0)])))]),pL,pL,(.lst [(.mk [(pi 0),(pi 0),(pi 1)])])])
abbrev fG:PE:=.con (.agg [(.bool false),(.int 0)])
abbrev Kq:PE:=.ai .quo .i64 (aN (.ai .mul .i64 (pi 5) (bD (.ai .rem .i64 (aN r0 (pi 730425)) (pi 146097)) (bD (aN (.ai .mul .i64 (pi 365) xG) (.ai .quo .i64 xG (pi 4))) (.ai .quo .i64 xG (pi 100))))) (pi 2)) (pi 153)
abbrev rJ:PE:=.deref (.con (.ref (.agg [(.int 6),(.int 7),(.int 10),(.int 12),(.int 13),(.int 14),(.int 15),(.int 16),(.int 20),(.int 21)])))
abbrev lh:PE:=.setc z3 0 (.mk [(pc (.mk [r0]) 5),(pc (.mk [r0]) 6),(pc (.mk [r0]) 7)])
abbrev nw:PE:=.con (.agg [(.bool false),(.int 0),(.int 0),(.list []),(.int 0)])
abbrev Bm:PE:=.con (.agg [(.int 0),(.int 0),(.int 0),(.int 0),(.int 0),(.int 0),(.int 0),(.int 0),(.int 0),(.int 0),(.int 0),(.int 0),(.int 0),(.int 0),(.int 0),(.list []),(.list []),(.list []),(.list [])])
abbrev Kl:PE:=.put (.put (.put (.put (.con (.map [])) (pi 7) (aU (.ai .and .i64 (pc o6 13) (pi 1)) (pi 0))) (pi 8) (peq (pc o6 2) (pi (-1)))) (pi 9) (aU (.ai .and .i64 (pc o6 13) (pi 4)) (pi 0))) (pi 10) (aU (.ai .and .i64 (pc o6 13) (pi 2)) (pi 0))
abbrev kA:PE:=.con (.agg [(.int 0),(.int 0),(.list [])])
abbrev cM:PE:=pi 4294967296
abbrev lP:PE:=.con (.agg [(.list []),(.int 0)])
abbrev Q9:PE:=.con (.agg [(.int 0),(.int 0),(.int 0),(.int 0),(.int 0),(.int 0),(.int 0),(.int 0),(.int 0),(.int 0),(.int 0),(.int 0),(.int 0),(.int 0),(.int 0),(.list []),(.list []),(.list []),(.list []),(.int 0),(.int 0),(.int 0),(.int 0),(.int 0)])
abbrev oQ:PE:=.setc z9 0 (pn (pc (.mk [r1]) 15) r2)
abbrev Bf:PE:=.mk [(pc (.setc fG 0 fH) 0),(pc (.setc fG 0 fH) 1)]
abbrev Bg:PE:=.setc z9 0 (pn (pc (.mk [r2]) 15) (pc (.mk [r2]) 19))
abbrev j0:PE:=.setc (.mk [r3]) 18 pL
abbrev Ra:PE:=.put (.put (.put (.con (.map [])) (pi 0) (pc o6 3)) (pi 1) (pc o6 14)) (pi 2) (pc o6 5)
abbrev Km:PE:=.pick (.pick (peq (.tget rL 0) (pi 0)) (pc cA 0) pF) (.setc cA 1 (.mn (.mx (pc cA 1) (pi 0)) (pi 20000))) cA
abbrev E0:PE:=.mk [(pc (.setc o4 0 (.mk [pF,(pi 0)])) 0),(pc (.setc o4 0 (.mk [pF,(pi 0)])) 1)]
abbrev Ko:PE:=.con (.agg [(.int 0),(.int 0),(.bool false)])
abbrev acI:PE:=.ai .add .u64 (.ai .mul .u64 (.ai .shr .u64 r0 (.con (.v (.int .u64 32)))) (.ai .and .u64 r1 (.con (.v (.int .u64 4294967295))))) (.ai .shr .u64 (.ai .mul .u64 (.ai .and .u64 r0 (.con (.v (.int .u64 4294967295)))) (.ai .and .u64 r1 (.con (.v (.int .u64 4294967295))))) (.con (.v (.int .u64 32))))
abbrev xH:PE:=.setc (.setc cA 3 (.tget Fa 0)) 4 (.tget Fa 1)
abbrev acJ:PE:=.app (.app Qb (.lst [(.mk [eg,(pc o8 19),(.ai .and .i64 (.ai .rem .i64 (.ai .shr .i64 (.conv .i64 r4) eg) (pi 2)) (pi 1))])])) (.lst [(.mk [eg,(.mx (pc o8 20) (pi 0)),(.ai .and .i64 (.ai .shr .i64 (.conv .i64 r4) (aN eg (pi 5))) (pi 1))])])
abbrev vd:PE:=pc (.mk [r0]) 2
abbrev Kp:PE:=aN (bD (aN (.ai .mul .i64 (pi 12) (.tget j2 0)) (.tget j2 1)) (pi 1)) r1
abbrev lg:PE:=ax 8 (.mk [r0])
abbrev kB:PE:=pc (.mk [r0]) 0
abbrev Bh:PE:=.setc z3 0 (pn (pc o2 18) r8)
abbrev Bi:PE:=.setc z3 0 (pn (pc o2 18) r6)
abbrev j1:PE:=.setc o2 18 pN
abbrev lQ:PE:=.llen (pc o1 1)
abbrev Rb:PE:=.mk [(pc (.setc o4 0 (.mk [(pi 0),(pi 0),pL])) 0),(pc (.setc o4 0 (.mk [(pi 0),(pi 0),pL])) 1),pL]
abbrev Bj:PE:=.setc z3 0 (pn cg dx)
abbrev xI:PE:=.setc fG 0 (.mk [pT,(pi 1)])
abbrev lR:PE:=.setc o4 0 o5
abbrev nv:PE:=.llen (pc o1 3)
abbrev acK:PE:=.pick (.pick (peq (.tget jH 0) (.con (.v (.int .u64 0)))) (aj (.tget jH 1) (.con (.v (.int .u64 1099511627776)))) pF) (.conv .i64 (.tget jH 1)) (pi 1099511627776)
abbrev Rc:PE:=ax 5 (.setc o8 0 (.mk [(pc cA 0),(pc cA 1),(pc cA 2),(.o 16394),(pc cA 4)]))
abbrev Re:PE:=.mk [(pc (.setc o6 0 (.mk [pF,(pi 0)])) 0),(pc (.setc o6 0 (.mk [pF,(pi 0)])) 1)]
abbrev oR:PE:=.llen (pc o3 2)
abbrev oS:PE:=.llen (pc o1 4)
abbrev acL:PE:=.pick (.pick (.pick (aj (pc Bg 2) (pi 0)) pT (cL (pc Bg 2) (.llen (pc (.mk [r0]) 3)))) pT (aj r1 (pi 0))) pT (cL r1 (.llen (pc (.mk [r0]) 4)))
abbrev Rf:PE:=.put (.con (.map [])) (pi 7) (aU (.ai .and .i64 (pc o6 13) (pi 1)) (pi 0))
abbrev qu:PE:=pc (.mk [r0]) 1
abbrev rH:PE:=pc (.mk [r0]) 15
abbrev acM:PE:=.app o2 (.lst [(pc (.setc (.con (.agg [(.v (.string ⟨#[]⟩)),(.int 0),(.int 0),(.list []),(.list []),(.list [])])) 0 (pn cg dx)) 0)])
abbrev Rg:PE:=.pick (aj (pn cR cN) (pi 15)) pT (cL (pn cR cN) (.llen gZ))
abbrev E1:PE:=bD (pi 2) (pc (pn o7 (pi 0)) 1)
abbrev Kr:PE:=.setc kA 0 (.sub (pn (pc o2 3) j2) 1 3)
abbrev rI:PE:=.llen (pc o1 2)
abbrev xJ:PE:=.setc z3 0 (pn r1 r5)
abbrev Ks:PE:=.pick (aj r1 (pi 3)) (bD r0 (pi 1)) r0
abbrev acN:PE:=.app o4 (.lst [(pc (.setc (.con (.agg [(.v (.string ⟨#[]⟩)),(.bool false),(.list []),(.list [])])) 0 (pn jm oU)) 0)])
abbrev Bk:PE:=.con (.v (.int .u64 32))
abbrev acO:PE:=.setc (.con (.agg [(.list []),(.list []),(.list []),(.list []),(.list []),(.list []),(.list []),(.list [])])) 0 di
abbrev acP:PE:=.put (.put (.put Kl (pi 11) (aU Rq Rr)) (pi 12) cR) (pi 13) (aU (.ai .and .i64 (pc o8 8) (pi 1)) (pi 0))
abbrev qv:PE:=pn r1 (pi 1)
abbrev tC:PE:=aN r8 (pi 1)
abbrev tD:PE:=aN r5 (pi 1)
abbrev Rh:PE:=.put (.put Ra (pi 3) (pc o6 12)) (pi 4) (pc o8 0)
abbrev acQ:PE:=.pick (aZ (.llen (pc (pn (pc o1 1) r3) 4)) (pi 70)) pT (aZ (.llen (pc (pn (pc o1 1) r3) 5)) (pi 210))
abbrev E2:PE:=.setc nw 0 (.tget cN 0)
abbrev E3:PE:=.setc Ko 0 (pn j2 jI)
abbrev qw:PE:=.llen vd
abbrev acR:PE:=.app o3 (.lst [(pc (.setc (.con (.agg [(.v (.string ⟨#[]⟩)),(.int 0),(.int 0)])) 0 (pn jI fH)) 0)])
abbrev acS:PE:=.app o4 (.lst [(pc (.setc (.con (.agg [(.int 0),(.int 0),(.int 0),(.list [])])) 0 (pn fH rM)) 0)])
abbrev ve:PE:=.llen (pc o1 0)
abbrev acT:PE:=.an (.cb .eql (pc (pn r1 (pi 0)) 0) (pc Bf 0)) (.an (peq (pc (pn r1 (pi 0)) 1) (pc Bf 1)) pT)
abbrev acU:PE:=.app (.o 69637) (.lst [(.mk [(pc (.setc z2 0 (pn qx oV)) 0),(pc (.setc z2 0 (pn qx oV)) 1)])])
abbrev Ri:PE:=.setc o4 0 (.mk [(pc o9 0),(pc o9 1),(pc o9 2)])
abbrev acV:PE:=.pick (.nt (.nt (.an (.an dx pT) (.nt pF)))) (.app (.o 1000) (.lst [(.tup [r5])])) (.o 1000)
abbrev vf:PE:=aN r3 (pi 1)
abbrev Bl:PE:=aU (pi 100) (pi 0)
abbrev acW:PE:=.pick (aZ (aN Kq (pi 3)) (pi 12)) (bD (aN Kq (pi 3)) (pi 12)) (aN Kq (pi 3))
abbrev xK:PE:=.llen (pc o2 18)
abbrev acX:PE:=.setc o4 0 (.mk [(pc (.setc fG 0 (.tget mF 0)) 0),(pc (.setc fG 0 (.tget mF 0)) 1)])
abbrev E4:PE:=.setc z9 0 (pn r34 lj)
abbrev Kt:PE:=.setc fG 0 (.mk [pT,(pi 0)])
abbrev Ku:PE:=bD (.llen (pc o3 3)) (pi 1)
abbrev xL:PE:=pn (pc o1 4) r4
abbrev Rj:PE:=peq (.sidx r0 r3) (.con (.v (.int .u8 95)))
abbrev xM:PE:=pc (.mk [r0]) 5
abbrev xN:PE:=pc (.mk [r0]) 4
abbrev acY:PE:=.pick (.pick (peq (pc Bj 0) r1) (bM (pc Bj 1) r2) pF) (bM r2 (pc Bj 2)) pF
abbrev xO:PE:=.llen (pc o1 7)
abbrev E5:PE:=.con (.agg [(.int 0)])
abbrev acZ:PE:=aN xG (.ai .mul .i64 (pi 400) (.ai .quo .i64 (aN r0 (pi 730425)) (pi 146097)))
abbrev rK:PE:=pn dx cN
abbrev tE:PE:=aj dx cR
abbrev Rk:PE:=.app o5 (.lst [(pc (pn (pc o1 1) r6) 0)])
abbrev Rl:PE:=.app o4 (.lst [(pc (pn (pc o1 3) r5) 0)])
abbrev Bn:PE:=pi 1099511627776
abbrev Bo:PE:=pc (.mk [r1]) 1
abbrev Bp:PE:=pc (.mk [r1]) 0
abbrev Rm:PE:=.pick (cL r0 (pi 0)) (aj r0 r1) pF
abbrev Bq:PE:=.llen (pc o1 5)
abbrev ac0:PE:=.setc o4 0 (.mk [(pc (.setc fG 0 KC) 0),(pc (.setc fG 0 KC) 1)])
abbrev acC:PE:=.setc o4 0 (.mk [(pc (.setc fG 0 lT) 0),(pc (.setc fG 0 lT) 1)])
abbrev acD:PE:=.setc lP 0 (.mk [(.lst [(pi 1),(pi (-1)),(pi (-1))]),(pi (-1))])
abbrev acE:PE:=.pick (aU (pc o3 22) (pi (-1))) (bD (pc o8 6) (pc o3 22)) (pi 0)
abbrev Q8:PE:=.ai .rem .i64 (pn r8 di) (pi 100)
abbrev acF:PE:=.app (.o 77829) (.lst [(.mk [(pc P9 0),(pc P9 1),(pc P9 2)])])
abbrev acG:PE:=.app o5 (.lst [(.mk [(pc Bi 0),(pc Bi 1),(pc Bi 2)])])
abbrev acH:PE:=.app o5 (.lst [(.mk [(pc Bh 0),(pc Bh 1),(pc Bh 2)])])
end Rm
