/-
  How the functions of this seat are called.
-/
import Derived.Test.YtipjidjopglknaaGreatDoorProg
import Derived.Test.YtipjidjopglknaaGreatDoorMAJ
set_option linter.defProp false
set_option linter.unusedVariables false
set_option maxRecDepth 100000
noncomputable section
namespace Rm
open Go Go.Proofs Cx
abbrev I:Ty:=.int .i64
abbrev Y0:Ty:=.agg [.str,I,I,(.slice I),(.slice I),(.slice I)]
abbrev Y1:Ty:=.agg [I]
abbrev Y2:Ty:=.agg [.str,I,I]
abbrev Y3:Ty:=.agg [I,I,.bool]
abbrev Y4:Ty:=.agg [I,I,I,(.slice .trm)]
abbrev Y5:Ty:=.agg [.str,.bool,(.slice Y3),(.slice Y4)]
abbrev Y6:Ty:=.agg [I,I,I]
abbrev Y7:Ty:=.agg [I,I,I,I,I]
abbrev Y8:Ty:=.agg [(.slice .str),(.slice Y0),(.slice Y1),(.slice Y2),(.slice Y5),(.slice Y6),(.slice Y7),(.slice Y6)]
abbrev Y9:Ty:=.agg [I,I,I,I,I,I,I,I,I]
abbrev tQ:Ty:=.agg [I,I]
abbrev jU:Ty:=.agg [I,I,I,I,I,I,I,I,I,I,I,I,I,I,I,(.slice Y9),(.slice tQ),(.slice Y9),(.slice Y6),I,I,I,I,I]
abbrev kP:Ty:=.agg [I,I,I,I,I,I,I,I,I,I,I,I,I,I,I,(.slice Y9),(.slice tQ),(.slice Y9),(.slice Y6)]
abbrev qy:Ty:=.agg [.bool,I,I,(.slice I),I]
abbrev dx:Ty:=.agg [.bool,I]
abbrev Jl:Ty:=.agg [I,I,I,I,I,I,I,I,I,I,I,I,I,I,I]
abbrev kQ:Ty:=.agg [I,I,(.slice .trm)]
abbrev Y17:Ty:=.agg [(.slice dx)]
abbrev Y18:Ty:=.agg [(.slice I),I]
abbrev zzv (a:List Ty)(r:Ty):Sig:=⟨a,r,.dat⟩
def fa:List (Nat×Sig):=[
 (3,zzv [Y8,I,I,jU,I] .bool),
 (6,zzv [] .bool),
 (7,zzv [Y8,kP] .bool),
 (8,zzv [Y8,I,I,jU] qy),
 (9,zzv [Y8,I,I,jU] qy),
 (10,zzv [Y8,I,I,kP,I] qy),
 (11,zzv [Y8,I,I,kP,I] qy),
 (12,zzv [qy,qy] .bool),
 (13,zzv [qy] I),
 (14,zzv [qy] I),
 (15,zzv [qy] I),
 (16,zzv [qy] I),
 (17,zzv [(.slice I),(.slice I)] .bool),
 (18,zzv [Y8,I,jU] (.slice I)),
 (19,zzv [Y8,I,jU] (.slice I)),
 (20,zzv [Y8,I,I,jU] (.slice I)),
 (21,zzv [Y8,I,I,jU] (.slice I)),
 (22,zzv [Y8,I,kP,I] I),
 (23,zzv [Y8,I,kP,I] I),
 (24,⟨[kP,I],kP,(.rows [.dat I,.dat I,.dat I,.dat I,.dat I,.dat I,.dat I,.dat I,.dat I,.dat I,.dat I,.dat I,.dat I,.dat I,.dat I,.row 88 Y9,.row 99 tQ,.row 97 Y9,.row 67 Y6])⟩),
 (26,zzv [Y8,jU] (.slice dx)),
 (28,zzv [] Y8),
 (29,zzv [kP] jU),
 (30,zzv [I] kP),
 (31,zzv [Y8,kP] .bool),
 (32,zzv [Y8] I),
 (33,zzv [Y8,I,I,jU] (.tup [qy,(.slice dx)])),
 (34,zzv [Y5,I,(.slice dx)] (.tup [dx,I])),
 (35,zzv [I] .bool),
 (36,zzv [Y8,I,I,(.slice I)] (.tup [(.slice I),I])),
 (37,zzv [Y5,I,(.slice dx)] (.tup [dx,I])),
 (38,zzv [Y8,jU] (.slice dx)),
 (39,zzv [Y8,jU] (.tup [jU,(.slice dx)])),
 (40,zzv [Y8,I,jU] (.nsl I)),
 (41,zzv [Y8,I] I),
 (42,zzv [Y5,I,(.slice dx)] (.slice I)),
 (43,zzv [Y5,I,(.slice dx)] (.slice I)),
 (44,zzv [Y8,Jl,I,I] (.tup [I,I])),
 (45,zzv [kP] I),
 (46,zzv [kP,I] kP),
 (47,zzv [Y8,Jl,I,I] (.tup [I,I])),
 (48,zzv [kP] I),
 (49,zzv [I,I] .bool),
 (55,zzv [(.slice tQ),(.fn [tQ] .bool)] .bool),
 (56,zzv [tQ,(.ref jU)] .bool),
 (57,zzv [Y8,I] I),
 (58,zzv [.bool] dx),
 (59,zzv [kP,I,I] dx),
 (61,zzv [Y8] .bool),
 (62,zzv [kP] .bool),
 (63,zzv [Y5] .bool),
 (64,zzv [Y8] I),
 (65,zzv [Y8] I),
 (66,zzv [Y8] I),
 (67,zzv [Y8] I),
 (68,zzv [Y8] I),
 (69,zzv [I] (.tup [I,.bool])),
 (70,zzv [Y8,I,I,(.slice I)] (.tup [(.slice I),I])),
 (71,zzv [Y5,I] (.tup [kQ,I])),
 (72,zzv [kQ,(.slice dx)] dx),
 (73,zzv [Y8,(.slice I)] .bool),
 (74,zzv [I,I,I] .bool),
 (75,zzv [Y8,I,I,(.slice I)] (.tup [I,.bool])),
 (76,zzv [Y5,I] I),
 (77,zzv [kQ,(.slice dx)] dx),
 (78,zzv [Y5,I] I),
 (79,zzv [I] .bool),
 (80,zzv [Y8,jU] (.slice dx)),
 (81,zzv [(.slice I),I] .bool),
 (82,zzv [kQ,(.slice dx)] (.slice I)),
 (83,zzv [kQ,(.slice dx)] (.slice I)),
 (84,zzv [Y8] I),
 (85,zzv [Y8,I] .bool),
 (86,zzv [I] .bool),
 (87,zzv [Y6] .bool),
 (88,zzv [Y8,Jl,I] (.tup [I,I])),
 (89,zzv [Y8,I,I] (.tup [I,I])),
 (90,zzv [(.slice I)] I),
 (91,zzv [Y8,I] .bool),
 (92,zzv [I] .bool),
 (93,zzv [Y6] .bool),
 (94,zzv [Y8,I,I] (.tup [I,I])),
 (95,zzv [Y8,Jl,I] I),
 (96,zzv [Y8,I,I] (.tup [I,I])),
 (99,zzv [Y8,I,I] (.tup [I,I])),
 (104,zzv [(.slice tQ),(.fn [tQ] .bool)] I),
 (105,zzv [I,I] .bool),
 (106,zzv [kP,I,I] dx),
 (107,zzv [kQ] .bool),
 (108,zzv [(.slice .str),I] I),
 (109,zzv [Y8,Y0] .bool),
 (110,zzv [Y5] .bool),
 (111,zzv [Y8,I,I,(.slice I)] .bool),
 (112,zzv [Y8,I,I,(.slice I)] (.tup [I,.bool])),
 (113,zzv [(.slice Y4),(.fn [Y4] .bool)] I),
 (114,zzv [Y4,(.ref I)] .bool),
 (115,zzv [kQ] (.tup [I,I])),
 (116,zzv [Y17,kQ] (.tup [dx,(.slice I)])),
 (117,zzv [Y5,I] Y3),
 (118,zzv [kQ] (.tup [I,I])),
 (119,zzv [I] (.tup [I,.bool])),
 (120,zzv [kQ,(.slice dx)] dx),
 (121,zzv [I] dx),
 (122,zzv [.bool] dx),
 (123,zzv [I,I] .bool),
 (124,zzv [(.slice I),I] I),
 (127,zzv [kQ,(.slice dx),I] .bool),
 (128,zzv [Y8] (.tup [(.slice .str),(.slice .str),(.slice .str)])),
 (129,zzv [(.slice .str),I,(.fn [I] .bool)] I),
 (130,zzv [I] .bool),
 (131,zzv [I,(.ref Y8)] .bool),
 (132,zzv [Y8,Y0] .bool),
 (133,zzv [I,(.ref Y8)] .bool),
 (134,zzv [I,(.ref Y8)] .bool),
 (135,zzv [Y5] .bool),
 (136,zzv [Y8] I),
 (137,zzv [Y8] I),
 (138,zzv [I,Y6] (.tup [I,I])),
 (139,zzv [Y8,I,I] I),
 (140,zzv [Y0,I] (.tup [I,I])),
 (141,zzv [I,I] (.tup [I,I])),
 (142,zzv [Y0,I] (.tup [I,I])),
 (146,zzv [kQ,I,I] I),
 (147,zzv [.str] .bool),
 (148,zzv [(.slice .str),I,.str] .bool),
 (149,zzv [(.slice I),I,I] .bool),
 (150,zzv [(.slice I),(.fn [I] .bool)] .bool),
 (151,zzv [I,(.ref I)] .bool),
 (152,zzv [kQ,I] I),
 (153,zzv [kQ] (.tup [I,I])),
 (154,zzv [Y17,I] dx),
 (155,zzv [I,(.slice dx)] dx),
 (156,zzv [(.slice (.slice I))] (.slice I)),
 (157,zzv [kQ] (.tup [I,I])),
 (158,zzv [I,(.slice dx)] dx),
 (159,zzv [dx,dx,I] dx),
 (160,zzv [I,I,I] dx),
 (163,zzv [(.slice .str),I] I),
 (164,zzv [(.slice I),I,I] .bool),
 (165,zzv [I,I] (.tup [I,I])),
 (166,zzv [I] .bool),
 (167,zzv [Y0,I,I] (.fn [(.fn [I] .bool)] (.tup []))),
 (168,zzv [I] (.tup [I,I,I,I])),
 (169,zzv [I,I,I] (.tup [I,I])),
 (170,zzv [I,I] I),
 (171,zzv [Y0,I] (.tup [.bool,I])),
 (172,zzv [(.int .u8)] .bool),
 (173,zzv [(.slice I),(.fn [I] .bool)] I),
 (174,zzv [kQ] (.tup [I,I])),
 (175,zzv [I] Y18),
 (176,zzv [I] (.tup [I,.bool])),
 (177,zzv [.bool] dx),
 (178,zzv [I] I),
 (179,zzv [I,I,I] I),
 (180,⟨[.nils .bool,I],(.slice I),(.row 3 I)⟩),
 (181,zzv [I] I),
 (182,zzv [kQ] (.tup [I,I])),
 (183,zzv [I,(.slice I)] (.tup [I,.bool])),
 (184,zzv [I] (.tup [I,.bool])),
 (185,zzv [I] I),
 (186,zzv [.bool] dx),
 (187,zzv [I,I] I),
 (199,zzv [.str] .bool),
 (200,zzv [(.slice .str),.str] .bool),
 (201,zzv [I] (.tup [I,I,I])),
 (202,zzv [I,I,I] (.tup [I,I])),
 (203,zzv [I,I] I),
 (205,zzv [Y0,I] .bool),
 (206,zzv [I] I),
 (207,zzv [I] .bool),
 (208,zzv [(.slice I),I] .bool),
 (209,zzv [I,I] I),
 (215,zzv [(.slice .str),.str] I),
 (216,zzv [I,I,I] I),
 (217,zzv [(.int .u64),(.int .u64)] (.tup [(.int .u64),(.int .u64)]))]
def EG:List (Nat×CSig):=[
 (56,⟨[(.ref jU)],[tQ],.bool⟩),
 (114,⟨[(.ref I)],[Y4],.bool⟩),
 (130,⟨[],[I],.bool⟩),
 (131,⟨[(.ref Y8)],[I],.bool⟩),
 (133,⟨[(.ref Y8)],[I],.bool⟩),
 (134,⟨[(.ref Y8)],[I],.bool⟩),
 (151,⟨[(.ref I)],[I],.bool⟩),
 (204,⟨[(.ref I),(.ref I),(.ref Y0)],[(.fn [I] .bool)],(.tup [])⟩)]
def ctx:Ctx:={P:=Tryz.prog,cap:=bk EG,sig:=bk fa,avL:=λ_=>none,glob:=OH 0 [6,7,10,12,13,14,15,16,20,21]}
def eD:Ctx:={ctx with glob:=λ_=>none}
abbrev Oz (i:Nat):Sig:=(bk fa i).getD default
def cF (a b:List Nat)(f:Func)(i:Nat)(l:List Nat):Option PC:=gf {ctx with fr:=a,nh:=b} f (Oz i) l
def aO {o:Option PC}{t:PT}{l:List (Shp×PT)}(h:o.map told=some (t,l)):tree (ab o)=t:=bJ (F:=λ_=>(t,l)) h
def aw (o:Option PC){p:PT×List (Shp×PT)}(h:o.map told=some p):o=some (ab o):=azt (F:=λ_=>p) h
def az (l a b:List Nat){f:Nat}{fn:Func}{c:PC}(h0:ctx.P.funcs[f]?=some fn)(h1:ctx.sig f=some (Oz f))(h2:gf {ctx with fr:=a,nh:=b} fn (Oz f) l=some c):∃fn s ids fr nh,ctx.P.funcs[f]?=some fn/\ctx.sig f=some s/\gf {ctx with fr:=fr,nh:=nh} fn s ids=some c:=⟨fn,Oz f,l,a,b,h0,h1,h2⟩
abbrev Ha:PE:=.setc (.con (.agg [(.list []),(.list []),(.list []),(.list []),(.list []),(.list []),(.list []),(.list [])])) 0 (.mk [(.lst [(.con (.v (.string ⟨#[102,114,97,110,99]⟩)))]),(.lst [(.mk [(.con (.v (.string ⟨#[76,121,111,110]⟩))),(pi 0),(pi 0),pL,pL,pL]),(.mk [(.con (.v (.string ⟨#[76,111,110,100,111,110]⟩))),(pi 1),(pi 0),pL,pL,pL])]),(.lst [(.mk [(pi 0)])]),(.lst [(.mk [(.con (.v (.string ⟨#[97]⟩))),(pi 0),(pi 0)]),(.mk [(.con (.v (.string ⟨#[98]⟩))),(pi 1),(pi 0)])]),(.lst [(.mk [(pc (.setc (.con (.agg [(.v (.string ⟨#[]⟩)),(.bool false),(.list []),(.list [])])) 0 (.mk [(.con (.v (.string ⟨#[103,101,110,101,118,97]⟩))),pF,pL,(.lst [(.mk [(pi 2),(.mk [(pc (.setc (.con (.agg [(.int 0),(.int 0),(.list [])])) 0 (.mk [(pi 2),(pi 15),pL])) 0),(pc (.setc (.con (.agg [(.int 0),(.int 0),(.list [])])) 0 (.mk [(pi 2),(pi 15),pL])) 1),pL])]),(.mk [(pi 6),(.mk [(pi 0),(pi 0),pL])])])])) 0),(pc (.setc (.con (.agg [(.v (.string ⟨#[]⟩)),(.bool false),(.list []),(.list [])])) 0 (.mk [(.con (.v (.string ⟨#[103,101,110,101,118,97]⟩))),pF,pL,(.lst [(.mk [(pi 2),(.mk [(pc (.setc (.con (.agg [(.int 0),(.int 0),(.list [])])) 0 (.mk [(pi 2),(pi 15),pL])) 0),(pc (.setc (.con (.agg [(.int 0),(.int 0),(.list [])])) 0 (.mk [(pi 2),(pi 15),pL])) 1),pL])]),(.mk [(pi 6),(.mk [(pi 0),(pi 0),pL])])])])) 1),pL,(pc (.setc (.con (.agg [(.v (.string ⟨#[]⟩)),(.bool false),(.list []),(.list [])])) 0 (.mk [(.con (.v (.string ⟨#[103,101,110,101,118,97]⟩))),pF,pL,(.lst [(.mk [(pi 2),(.mk [(pc (.setc (.con (.agg [(.int 0),(.int 0),(.list [])])) 0 (.mk [(pi 2),(pi 15),pL])) 0),(pc (.setc (.con (.agg [(.int 0),(.int 0),(.list [])])) 0 (.mk [(pi 2),(pi 15),pL])) 1),pL])]),(.mk [(pi 6),(.mk [(pi 0),(pi 0),pL])])])])) 3)]),(aq 4 (.setc (.con (.agg [(.v (.string ⟨#[]⟩)),(.bool false),(.list []),(.list [])])) 0 (.mk [(.con (.v (.string ⟨#[108,111,110,100,111,110]⟩))),pF,(.lst [(.mk [(pi 2),(pi 1),pF])]),(.lst [(.mk [(pi 2),(.mk [(pc (.setc (.con (.agg [(.int 0),(.int 0),(.list [])])) 0 (.mk [(pi 4),(pi 0),(.lst [(.mk [(pc (.setc (.con (.agg [(.int 0),(.int 0),(.list [])])) 0 (.mk [(pi 2),(pi 15),pL])) 0),(pc (.setc (.con (.agg [(.int 0),(.int 0),(.list [])])) 0 (.mk [(pi 2),(pi 15),pL])) 1),pL]),(.mk [(pi 2),(pi 17),pL])])])) 0),(pc (.setc (.con (.agg [(.int 0),(.int 0),(.list [])])) 0 (.mk [(pi 4),(pi 0),(.lst [(.mk [(pc (.setc (.con (.agg [(.int 0),(.int 0),(.list [])])) 0 (.mk [(pi 2),(pi 15),pL])) 0),(pc (.setc (.con (.agg [(.int 0),(.int 0),(.list [])])) 0 (.mk [(pi 2),(pi 15),pL])) 1),pL]),(.mk [(pi 2),(pi 17),pL])])])) 1),(pc (.setc (.con (.agg [(.int 0),(.int 0),(.list [])])) 0 (.mk [(pi 4),(pi 0),(.lst [(.mk [(pc (.setc (.con (.agg [(.int 0),(.int 0),(.list [])])) 0 (.mk [(pi 2),(pi 15),pL])) 0),(pc (.setc (.con (.agg [(.int 0),(.int 0),(.list [])])) 0 (.mk [(pi 2),(pi 15),pL])) 1),pL]),(.mk [(pi 2),(pi 17),pL])])])) 2)])]),(.mk [(pi 6),(.mk [(pi 0),(pi 3),pL])])])])))]),pL,pL,pL])
abbrev zX:PE:=.ai .quo .i64 (bp (aL (bp (.ai .rem .i64 (aL r0 (pi 730425)) (pi 146097)) (.ai .quo .i64 (.ai .rem .i64 (aL r0 (pi 730425)) (pi 146097)) (pi 1460))) (.ai .quo .i64 (.ai .rem .i64 (aL r0 (pi 730425)) (pi 146097)) (pi 36524))) (.ai .quo .i64 (.ai .rem .i64 (aL r0 (pi 730425)) (pi 146097)) (pi 146096))) (pi 365)
abbrev lg:PE:=.setc (.con (.agg [(.int 0),(.int 0),(.int 0),(.int 0),(.int 0),(.int 0),(.int 0),(.int 0),(.int 0),(.int 0),(.int 0),(.int 0),(.int 0),(.int 0),(.int 0),(.list []),(.list []),(.list []),(.list [])])) 0 (.mk [(aq 15 (.setc O7 0 (.mk [(pi 0),(pi 1),(pi 0),(pi 5),(pi 0),(.mk [(pi 3),(pi 10),(pi 0)]),(pi 2),r0,(pi 1),(pi (-1)),(pi 0),(pi 1),(pi 1)]))),(.lst [(aq 9 (.setc z9 0 (.mk [(pi 0),(pi 0),(pi 0),(pi (-1)),(pi (-1)),(pi 0),(pi 2),r0,(pi 0)])))]),pL,pL,(.lst [(.mk [(pi 0),(pi 0),(pi 1)])])])
abbrev cN:PE:=.con (.agg [(.bool false),(.int 0)])
abbrev zZ:PE:=.con (.agg [(.int 0),(.int 0),(.int 0),(.int 0),(.int 0),(.int 0),(.int 0),(.int 0),(.int 0),(.int 0),(.int 0),(.int 0),(.int 0),(.int 0),(.int 0),(.list []),(.list []),(.list []),(.list [])])
abbrev kf:PE:=.con (.agg [(.bool false),(.int 0),(.int 0),(.list []),(.int 0)])
abbrev Ny:PE:=.ai .quo .i64 (aL (.ai .mul .i64 (pi 5) (bp (.ai .rem .i64 (aL r0 (pi 730425)) (pi 146097)) (bp (aL (.ai .mul .i64 (pi 365) zX) (.ai .quo .i64 zX (pi 4))) (.ai .quo .i64 zX (pi 100))))) (pi 2)) (pi 153)
abbrev sZ:PE:=.deref (.con (.ref (.agg [(.int 6),(.int 7),(.int 10),(.int 12),(.int 13),(.int 14),(.int 15),(.int 16),(.int 20),(.int 21)])))
abbrev NB:PE:=.put (.put (.put (.put (.con (.map [])) (pi 7) (aR (.ai .and .i64 (pc o6 13) (pi 1)) (pi 0))) (pi 8) (peq (pc o6 2) (pi (-1)))) (pi 9) (aR (.ai .and .i64 (pc o6 13) (pi 4)) (pi 0))) (pi 10) (aR (.ai .and .i64 (pc o6 13) (pi 2)) (pi 0))
abbrev lf:PE:=.con (.agg [(.int 0),(.int 0),(.list [])])
abbrev No:PE:=.pick (.pick p6 (.nt mO) pF) (.pick (bq (pc (.pick (aj (pc o9 1) (pi 0)) (.setc o9 1 (pi 0)) o9) 1) (pi 20000)) (.setc (.pick (aj (pc o9 1) (pi 0)) (.setc o9 1 (pi 0)) o9) 1 (pi 20000)) (.pick (aj (pc o9 1) (pi 0)) (.setc o9 1 (pi 0)) o9)) o9
abbrev kG:PE:=.setc (.mk [r3]) 18 pL
abbrev uV:PE:=.mk [(pc (.setc o4 0 (.mk [pF,(pi 0)])) 0),(pc (.setc o4 0 (.mk [pF,(pi 0)])) 1)]
abbrev cM:PE:=pi 4294967296
abbrev uW:PE:=.con (.agg [(.int 0),(.int 0),(.bool false)])
abbrev mJ:PE:=.con (.agg [(.list []),(.int 0)])
abbrev zW:PE:=.setc z3 0 (.mk [(pc (.mk [r1]) 5),(pc (.mk [r1]) 6),(pc (.mk [r1]) 7)])
abbrev gK:PE:=pc (.mk [r0]) 0
abbrev Dq:PE:=.mk [(pc (.setc cN 0 fM) 0),(pc (.setc cN 0 fM) 1)]
abbrev Dr:PE:=.setc z9 0 (pn (pc (.mk [r2]) 15) (pc (.mk [r2]) 19))
abbrev UR:PE:=.put (.put (.put (.con (.map [])) (pi 0) (pc o6 3)) (pi 1) (pc o6 14)) (pi 2) (pc o6 5)
abbrev ke:PE:=pc (.mk [r0]) 1
abbrev Nq:PE:=.pick (.pick (peq (.tget nB 0) (pi 0)) (pc cq 0) pF) (.setc cq 1 (.mn (.mx (pc cq 1) (pi 0)) (pi 20000))) cq
abbrev Hd:PE:=aL (bp (aL (.ai .mul .i64 (pi 12) (.tget iy 0)) (.tget iy 1)) (pi 1)) r1
abbrev iU:PE:=aq 8 (.mk [r0])
abbrev ahr:PE:=.mk [(.mk [(pc kG 0),(pc kG 1),(pc kG 2),(pc kG 3),(pc kG 4),(pc kG 5),(pc kG 6),(pc kG 7),(pc kG 8),(pc kG 9),(pc kG 10),(pc kG 11),(pc kG 12),(pc kG 13),(pc kG 14),(pc kG 15),(pc kG 16),(pc kG 17),pL]),(pi 0),(pi (-1)),(pi (-1)),(pi (-1)),r4]
abbrev ahs:PE:=.ai .add .u64 (.ai .mul .u64 (.ai .shr .u64 r0 (.con (.v (.int .u64 32)))) (.ai .and .u64 r1 (.con (.v (.int .u64 4294967295))))) (.ai .shr .u64 (.ai .mul .u64 (.ai .and .u64 r0 (.con (.v (.int .u64 4294967295)))) (.ai .and .u64 r1 (.con (.v (.int .u64 4294967295))))) (.con (.v (.int .u64 32))))
abbrev Ds:PE:=pc (.mk [r0]) 2
abbrev zY:PE:=.setc (.setc cq 3 (.tget NJ 0)) 4 (.tget NJ 1)
abbrev xm:PE:=.setc zZ 0 (aq 19 (.mk [r1]))
abbrev Nr:PE:=bq (.mx r0 (bp (pi 0) r0)) (.ai .quo .i64 (pi 1099511627776) (.mx r1 (bp (pi 0) r1)))
abbrev Ns:PE:=.mk [(pc (.setc cN 0 (.mk [pT,(pi 1)])) 0),(pc (.setc cN 0 (.mk [pT,(pi 1)])) 1)]
abbrev Nt:PE:=.mk [(pc (.setc cN 0 (.mk [pF,(pi 0)])) 0),(pc (.setc cN 0 (.mk [pF,(pi 0)])) 1)]
abbrev Nu:PE:=.mk [(pc (.setc o6 0 (.mk [pF,(pi 0)])) 0),(pc (.setc o6 0 (.mk [pF,(pi 0)])) 1)]
abbrev Nv:PE:=aL (bp (aL (.ai .mul .i64 (pi 12) (.tget kh 0)) (.tget kh 1)) (pi 1)) r1
abbrev aht:PE:=.con (.agg [(.int 0),(.int 0),(.int 0),(.int 0),(.int 0),(.int 0),(.int 0),(.int 0),(.int 0),(.int 0),(.int 0),(.int 0),(.int 0),(.int 0),(.int 0),(.list []),(.list []),(.list []),(.list []),(.int 0),(.int 0),(.int 0),(.int 0),(.int 0)])
abbrev US:PE:=.setc (.setc (.setc o9 3 (.tget mP 0)) 4 (.tget mP 1)) 2 (pn (.tget mP 0) (bp (.llen (.tget mP 0)) (pi 1)))
abbrev oE:PE:=pn r1 (pi 0)
abbrev mK:PE:=.llen (pc o3 2)
abbrev mL:PE:=.llen (pc o1 1)
abbrev UT:PE:=.mk [(pc (.setc o4 0 (.mk [(pi 0),(pi 0),pL])) 0),(pc (.setc o4 0 (.mk [(pi 0),(pi 0),pL])) 1),pL]
abbrev lh:PE:=pn r1 (pi 1)
abbrev Dt:PE:=.setc z3 0 (pn bS dB)
abbrev nz:PE:=aL r5 (pi 1)
abbrev mM:PE:=.setc o4 0 o5
abbrev UU:PE:=.mk [(pc (.setc cN 0 (.mk [pT,(pi 0)])) 0),(pc (.setc cN 0 (.mk [pT,(pi 0)])) 1)]
abbrev oF:PE:=.llen (pc o1 3)
abbrev oG:PE:=.llen (pc o1 2)
abbrev ahu:PE:=.pick (.pick (peq (.tget gV 0) (.con (.v (.int .u64 0)))) (aj (.tget gV 1) (.con (.v (.int .u64 1099511627776)))) pF) (.conv .i64 (.tget gV 1)) (pi 1099511627776)
abbrev UW:PE:=aq 5 (.setc o8 0 (.mk [(pc cq 0),(pc cq 1),(pc cq 2),(.o 16394),(pc cq 4)]))
abbrev pY:PE:=.llen (pc o1 4)
abbrev ahv:PE:=.pick (.pick (.pick (aj (pc Dr 2) (pi 0)) pT (bY (pc Dr 2) (.llen (pc (.mk [r0]) 3)))) pT (aj r1 (pi 0))) pT (bY r1 (.llen (pc (.mk [r0]) 4)))
abbrev UX:PE:=.put (.con (.map [])) (pi 7) (aR (.ai .and .i64 (pc o6 13) (pi 1)) (pi 0))
abbrev rD:PE:=.llen (pc o4 4)
abbrev ahw:PE:=.app o2 (.lst [(pc (.setc (.con (.agg [(.v (.string ⟨#[]⟩)),(.int 0),(.int 0),(.list []),(.list []),(.list [])])) 0 (pn bS dB)) 0)])
abbrev z7:PE:=.mk [gK,ke,Ds]
abbrev He:PE:=bp (pi 2) (pc (pn o7 (pi 0)) 1)
abbrev ahx:PE:=.pick (.pick (.pick (.pick (aj r0 (pi 2000)) pT (bq r0 (pi 2300))) pT (aj r1 (pi 1))) pT (bq r1 (pi 12))) pT (aj r2 (pi 1))
abbrev Nw:PE:=.setc lf 0 (.sub (pn (pc o2 3) kh) 1 3)
abbrev ahy:PE:=.pick (.pick (.pick (aj (pc cq 0) (pi 0)) pT (bY (pc cq 0) (pi 5))) pT (aj (pc cq 2) (pi 0))) pT (bY (pc cq 2) (pi 2))
abbrev pZ:PE:=pn o5 (pi 0)
abbrev rE:PE:=ao r1 (pi 1)
abbrev uX:PE:=.tget Ae 0
abbrev Nx:PE:=.pick (aj r1 (pi 3)) (bp r0 (pi 1)) r0
abbrev ahz:PE:=.app o4 (.lst [(pc (.setc (.con (.agg [(.v (.string ⟨#[]⟩)),(.bool false),(.list []),(.list [])])) 0 (pn ju ma)) 0)])
abbrev sX:PE:=aL r8 (pi 1)
abbrev Du:PE:=.con (.v (.int .u64 32))
abbrev ahA:PE:=.setc (.con (.agg [(.list []),(.list []),(.list []),(.list []),(.list []),(.list []),(.list []),(.list [])])) 0 bZ
abbrev uY:PE:=pc (.mk [r0]) 4
abbrev ahB:PE:=.put (.put (.put NB (pi 11) (aR Hp Hq)) (pi 12) dP) (pi 13) (aR (.ai .and .i64 (pc o8 8) (pi 1)) (pi 0))
abbrev uZ:PE:=pn o5 (pi 1)
abbrev z8:PE:=aR (pi 100) (pi 0)
abbrev sY:PE:=ao r1 (pi 0)
abbrev Nz:PE:=.setc z9 0 (pn (pc o5 15) (pc o5 19))
abbrev u7:PE:=aL r3 (pi 1)
abbrev UY:PE:=.put (.put UR (pi 3) (pc o6 12)) (pi 4) (pc o8 0)
abbrev ahC:PE:=.pick (bq (.llen (pc (pn (pc o1 1) r3) 4)) (pi 70)) pT (bq (.llen (pc (pn (pc o1 1) r3) 5)) (pi 210))
abbrev NA:PE:=.mk [(pc o1 0),(pc o1 1),(pc o1 2)]
abbrev Hf:PE:=.setc kf 0 (.tget fo 0)
abbrev Hg:PE:=.setc uW 0 (pn kh fp)
abbrev rF:PE:=.llen Ds
abbrev ahD:PE:=.app o3 (.lst [(pc (.setc (.con (.agg [(.v (.string ⟨#[]⟩)),(.int 0),(.int 0)])) 0 (pn fp fM)) 0)])
abbrev ahE:PE:=.app o4 (.lst [(pc (.setc (.con (.agg [(.int 0),(.int 0),(.int 0),(.list [])])) 0 (pn fM p6)) 0)])
abbrev xn:PE:=pc (.mk [r0]) 5
abbrev xo:PE:=.llen (pc o1 0)
abbrev ahF:PE:=.app (.o 69637) (.lst [(.mk [(pc (.setc z2 0 (pn rH qa)) 0),(pc (.setc z2 0 (pn rH qa)) 1)])])
abbrev Hh:PE:=aj r6 (.llen (pc o2 17))
abbrev Hi:PE:=aj r5 (.llen (pc o2 15))
abbrev UZ:PE:=.setc z9 0 (pn (pc xm 15) (pc (.mk [r1]) 19))
abbrev U0:PE:=.setc o4 0 (.mk [(pc o9 0),(pc o9 1),(pc o9 2)])
abbrev Hj:PE:=aR (pc o3 22) (pi (-1))
abbrev ahG:PE:=.pick (.nt (.nt (.an (.an dB pT) (.nt pF)))) (.app (.o 1000) (.lst [(.tup [r5])])) (.o 1000)
abbrev Aa:PE:=pn (pc o3 7) bZ
abbrev Ab:PE:=.setc cN 0 mN
abbrev ahH:PE:=.pick (bq (aL Ny (pi 3)) (pi 12)) (bp (aL Ny (pi 3)) (pi 12)) (aL Ny (pi 3))
abbrev Ac:PE:=.llen (pc o1 17)
abbrev ahI:PE:=.setc o4 0 (.mk [(pc (.setc cN 0 (.tget jt 0)) 0),(pc (.setc cN 0 (.tget jt 0)) 1)])
abbrev Hk:PE:=.setc z9 0 (pn Hs kH)
abbrev Hl:PE:=.app xh (.lst [uX])
abbrev Di:PE:=.rep (pi 5) (pi 0)
abbrev zQ:PE:=pn (pc o1 4) r4
abbrev UJ:PE:=peq (.sidx r0 r3) (.con (.v (.int .u8 95)))
abbrev zR:PE:=pc (.mk [r1]) 0
abbrev UK:PE:=.pick (pc uZ 0) (pc (pn o5 (pi 2)) 0) pF
abbrev ahl:PE:=.pick (.pick (peq (pc Dt 0) r1) (bB (pc Dt 1) r2) pF) (bB r2 (pc Dt 2)) pF
abbrev zS:PE:=.llen (pc o1 7)
abbrev Hb:PE:=.con (.agg [(.int 0)])
abbrev ahm:PE:=aL zX (.ai .mul .i64 (pi 400) (.ai .quo .i64 (aL r0 (pi 730425)) (pi 146097)))
abbrev UL:PE:=.an (bY (pi 5) (pi 0)) (bB (pi 5) cM)
abbrev sW:PE:=pn dB fo
abbrev uU:PE:=aj dB dP
abbrev UM:PE:=.app o5 (.lst [(pc (pn (pc o1 1) r6) 0)])
abbrev UN:PE:=.app o4 (.lst [(pc (pn (pc o1 3) r5) 0)])
abbrev ahn:PE:=.an (.cb .eql (pc oE 0) (pc Dq 0)) (.an (peq (pc oE 1) (pc Dq 1)) pT)
abbrev zT:PE:=aL r7 (pi 1)
abbrev zU:PE:=aL r6 (pi 1)
abbrev Dj:PE:=peq oE (pi 1)
abbrev zV:PE:=aj r0 (pi 0)
abbrev UO:PE:=peq (.ai .rem .i64 r0 (pi 4)) (pi 0)
abbrev Dk:PE:=pc (.mk [r1]) 1
abbrev Dl:PE:=.llen (pc o3 4)
abbrev Dm:PE:=.llen (pc o2 3)
abbrev Dn:PE:=.llen (pc o2 2)
abbrev Dp:PE:=.llen (pc o1 5)
abbrev aho:PE:=.setc o4 0 (.mk [(pc (.setc cN 0 NN) 0),(pc (.setc cN 0 NN) 1)])
abbrev UP:PE:=.mk [(pc o2 0),(pc o2 1),(pc o2 2)]
abbrev Np:PE:=bp (.llen xh) (pi 1)
abbrev ahp:PE:=.setc mJ 0 (.mk [(.lst [(pi 1),(pi (-1)),(pi (-1))]),(pi (-1))])
abbrev UQ:PE:=.ai .rem .i64 (pn r8 bZ) (pi 100)
abbrev Hc:PE:=aq 24 (.mk [r3])
abbrev ahq:PE:=.app (.o 77829) (.lst [(.mk [(pc zG 0),(pc zG 1),(pc zG 2)])])
end Rm
