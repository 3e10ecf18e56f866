/-
  Shared texts of this claim.
-/
import Derived.Test.YtibbcfbmjlehcaaGreatDoorProg
import Derived.Test.YtibbcfbmjlehcaaGreatDoorBAI
import Derived.Sort.AssemblyPlain
import Derived.Test.YtibbcfbmjlehcaaGreatDoorBAA
import Derived.Sort.OwnSorted
import Derived.Lib.BitFns
import Derived.Shelf.GgSortFunc.RowK
import Derived.Shelf.Sort.Plain
import Derived.Ground.Names2Prog
import Derived.Shelf.Slices.Clone
import Derived.Shelf.Slices.CompactI
import Derived.Shelf.Slices.In.SortNone
import Derived.Ground.SlsfProg
import Derived.Ground.SlgfProg
import Derived.Shelf.SlSortCmp.Whole1
import Derived.Shelf.SlSortCmp.WholeK
import Derived.Shelf.SlicesQ.IndexFunc
import Derived.Shelf.SlSortCmp.NoneTotal
import Derived.Sort.OwnSortedInts
import Derived.Shelf.SlSortCmp.KitK
import Derived.Lib.SlKept
import Derived.Shelf.SlicesE.DeleteFunc
set_option linter.defProp false
set_option linter.unusedVariables false
set_option maxRecDepth 100000
noncomputable section
namespace Rm
open Go Go.Proofs Cx
abbrev I:Ty:=.int .i64
abbrev Y0:Ty:=.agg [.str,I,I,(.slice I),(.slice I),(.slice I)]
abbrev Y1:Ty:=.agg [I]
abbrev Y2:Ty:=.agg [.str,I,I]
abbrev Y3:Ty:=.agg [I,I,.bool]
abbrev Y4:Ty:=.agg [I,I,I,(.slice .trm)]
abbrev Y5:Ty:=.agg [.str,.bool,(.slice Y3),(.slice Y4)]
abbrev Y6:Ty:=.agg [I,I,I]
abbrev Y7:Ty:=.agg [I,I,I,I,I]
abbrev Y8:Ty:=.agg [(.slice .str),(.slice Y0),(.slice Y1),(.slice Y2),(.slice Y5),(.slice Y6),(.slice Y7),(.slice Y6)]
abbrev Y9:Ty:=.agg [I,I,I,I,I,I,I,I,I]
abbrev kH:Ty:=.agg [I,I]
abbrev eN:Ty:=.agg [I,I,I,I,I,I,I,I,I,I,I,I,I,I,I,(.slice Y9),(.slice kH),(.slice Y9),(.slice Y6)]
abbrev vp:Ty:=.agg [I,(.slice kH)]
abbrev gm:Ty:=.agg [I,I,I,I,I,I,.bool]
abbrev IY:Ty:=.agg [(.slice .str),(.slice Y0),(.slice Y1),(.slice Y2),(.slice Y5),(.slice Y6),(.slice Y7),(.slice Y6),I,I,I,I,I,I,I,I,I,I,I,I,I,I,I,I,I,(.slice Y9),(.slice kH),(.slice Y9),(.slice Y6),I,I]
abbrev DV:Ty:=.agg [.bool,I,I,(.slice I),I]
abbrev IZ:Ty:=.agg [I,I,I,I,I,I,I,I,I,I,I,I,I,I,I]
abbrev sA:Ty:=.agg [I,I,I,I,I,I,I,I,I,I,I,I,I,I,I,(.slice Y9),(.slice kH),(.slice Y9),(.slice Y6),I,I,I,I,I]
abbrev tY:Ty:=.agg [I,I,(.slice .trm)]
abbrev lV:Ty:=.agg [.bool,I]
abbrev Y20:Ty:=.agg [(.slice lV)]
abbrev Y21:Ty:=.agg [(.slice I),I]
abbrev zzv (a:List Ty)(r:Ty):Sig:=⟨a,r,.dat⟩
def wV:List (Nat×Sig):=[
 (5,zzv [Y8,I,eN,I,vp] .bool),
 (6,zzv [] .bool),
 (7,zzv [Y8,eN,vp] .bool),
 (9,zzv [Y8,I,eN,I,vp] (.tup [I,I])),
 (10,zzv [Y8,I,eN,I,vp] (.tup [I,I])),
 (11,⟨[Y8,I,eN,I],(.slice gm),(.row 63 gm)⟩),
 (12,zzv [gm] .bool),
 (13,zzv [Y8,I,eN,I] I),
 (14,zzv [I,I,I] (.tup [I,I])),
 (15,zzv [] Y8),
 (16,zzv [Y8,(.slice I),vp] (.tup [I,I])),
 (17,zzv [] vp),
 (18,zzv [I,I] eN),
 (19,zzv [vp] I),
 (20,zzv [(.slice I),(.slice I)] .bool),
 (21,zzv [Y8,I,eN,I,I] (.slice I)),
 (22,zzv [Y8,eN] .bool),
 (23,zzv [Y8] I),
 (24,zzv [Y8,eN] I),
 (26,zzv [Y8,I] .bool),
 (27,⟨[Y8,I,eN,I],(.slice gm),(.row 63 gm)⟩),
 (28,⟨[(.slice gm),(.fn [gm,gm] I)],(.tup []),(.ob [(.obj 0 0),(.dat (.fn [gm,gm] I))] [(0,(.row 63 gm))])⟩),
 (29,zzv [gm,gm] I),
 (30,zzv [Y8,(.slice I),vp] I),
 (31,⟨[Y8,(.slice gm),I],(.slice I),(.row 3 I)⟩),
 (32,zzv [Y8,I,eN,I] IY),
 (33,zzv [IY,I] gm),
 (34,⟨[eN,I],eN,(.rows [.dat I,.dat I,.dat I,.dat I,.dat I,.dat I,.dat I,.dat I,.dat I,.dat I,.dat I,.dat I,.dat I,.dat I,.dat I,.row 114 Y9,.row 123 kH,.row 139 Y9,.row 48 Y6])⟩),
 (35,zzv [DV] I),
 (36,zzv [Y8,I,I,eN,I] DV),
 (37,zzv [Y8,IZ,I,I] (.tup [I,I])),
 (38,zzv [eN] I),
 (39,zzv [I,I] .bool),
 (40,zzv [I,I,I] (.tup [I,I,.bool])),
 (41,zzv [kH] .bool),
 (42,zzv [(.slice kH),(.fn [kH] .bool)] .bool),
 (43,zzv [Y8] .bool),
 (44,zzv [eN] .bool),
 (45,zzv [Y5] .bool),
 (46,zzv [Y8] I),
 (47,zzv [Y8] I),
 (48,zzv [Y8] I),
 (49,zzv [Y8] I),
 (50,zzv [Y8] I),
 (51,zzv [Y8,IZ] I),
 (52,zzv [Y8,eN,I] I),
 (53,zzv [I,I,I] .bool),
 (54,zzv [Y8,eN] I),
 (55,zzv [eN] I),
 (56,⟨[(.slice gm),(.fn [gm] .bool)],(.slice gm),(.ob [(.obj 0 0),(.dat (.fn [gm] .bool))] [(0,(.row 63 gm)),(1,.tr)])⟩),
 (57,zzv [gm] .bool),
 (60,⟨[(.slice I)],(.slice I),(.row 3 I)⟩),
 (61,⟨[(.slice I),(.fn [I,I] I)],(.tup []),(.ob [(.obj 0 0),(.dat (.fn [I,I] I))] [(0,(.row 3 I))])⟩),
 (62,zzv [I,I,(.ref Y8)] I),
 (63,⟨[(.slice I)],(.tup []),(.ob [(.obj 0 0)] [(0,(.row 3 I))])⟩),
 (64,⟨[(.slice I)],(.slice I),(.ob [(.obj 0 0)] [(0,(.row 3 I)),(1,.tr)])⟩),
 (65,zzv [DV] I),
 (66,zzv [eN,I,I] .bool),
 (67,zzv [(.slice I)] I),
 (68,zzv [IY,I,I] I),
 (69,zzv [IY,I] (.tup [I,I])),
 (70,zzv [I,I] .bool),
 (71,zzv [Y8,I,I,sA] DV),
 (72,zzv [Y8] I),
 (73,zzv [Y8,I] .bool),
 (74,zzv [I] .bool),
 (75,zzv [Y6] .bool),
 (76,zzv [Y8,IZ,I] (.tup [I,I])),
 (77,zzv [Y8,I,I] (.tup [I,I])),
 (78,zzv [(.slice I)] I),
 (79,zzv [(.int .u64),(.int .u64)] (.tup [(.int .u64),(.int .u64)])),
 (80,zzv [(.int .u64),(.int .u64),(.int .u64)] (.tup [(.int .u64),(.int .u64)])),
 (81,zzv [(.slice kH),(.fn [kH] .bool)] I),
 (82,zzv [tY] .bool),
 (83,zzv [(.slice .str),I] I),
 (84,zzv [Y8,Y0] .bool),
 (85,zzv [I,I,I] .bool),
 (86,zzv [Y5] .bool),
 (87,zzv [I,I] .bool),
 (88,zzv [IZ] .bool),
 (89,zzv [Y8,I,I] (.tup [I,I])),
 (90,zzv [Y8,eN,I] .bool),
 (91,zzv [Y8,eN,Y9] .bool),
 (92,zzv [(.slice I)] I),
 (93,zzv [I,I] I),
 (104,zzv [(.int .u64)] I),
 (107,zzv [eN,I] (.map I .bool)),
 (108,zzv [eN,I] I),
 (109,zzv [Y8,I,I,sA] (.tup [DV,(.slice lV)])),
 (110,zzv [Y5,I,(.slice lV)] (.tup [lV,I])),
 (111,zzv [Y8] (.tup [(.slice .str),(.slice .str),(.slice .str)])),
 (112,zzv [(.slice .str),I,(.fn [I] .bool)] I),
 (113,zzv [I] .bool),
 (114,zzv [I,(.ref Y8)] .bool),
 (115,zzv [Y8,Y0] .bool),
 (116,zzv [I,I] .bool),
 (117,zzv [I,(.ref Y8)] .bool),
 (118,zzv [I,(.ref Y8)] .bool),
 (119,zzv [Y5] .bool),
 (120,zzv [Y8] I),
 (121,zzv [Y8] I),
 (122,zzv [I,Y6] (.tup [I,I])),
 (123,zzv [Y8,I] I),
 (124,zzv [Y8,I,I] I),
 (125,zzv [Y0,I] (.tup [I,I])),
 (126,zzv [(.int .u64)] I),
 (127,zzv [tY,I,I] I),
 (128,zzv [.str] .bool),
 (129,zzv [(.slice .str),I,.str] .bool),
 (130,zzv [(.slice I),I,I] .bool),
 (131,zzv [eN,I,(.slice I)] .bool),
 (132,zzv [eN,I,I] .bool),
 (133,zzv [I] .bool),
 (156,zzv [Y8,sA] (.tup [sA,(.slice lV)])),
 (157,zzv [I] (.tup [I,.bool])),
 (158,zzv [Y8,I,sA] (.nsl I)),
 (159,zzv [Y8,I,I,(.slice I)] (.tup [(.slice I),I])),
 (160,zzv [Y5,I] (.tup [tY,I])),
 (161,zzv [tY,(.slice lV)] lV),
 (162,zzv [(.slice .str),I] I),
 (163,zzv [(.slice I),I,I] .bool),
 (164,zzv [I,I] (.tup [I,I])),
 (165,zzv [I] .bool),
 (166,zzv [Y0,I,I] (.fn [(.fn [I] .bool)] (.tup []))),
 (167,zzv [(.int .u8)] .bool),
 (168,zzv [(.slice I),I] .bool),
 (176,zzv [Y8,sA] (.slice lV)),
 (177,zzv [Y8,I,I,(.slice I)] .bool),
 (178,zzv [Y8,I,I,(.slice I)] (.tup [I,.bool])),
 (179,zzv [(.slice Y4),(.fn [Y4] .bool)] I),
 (180,zzv [Y4,(.ref I)] .bool),
 (181,zzv [tY] (.tup [I,I])),
 (182,zzv [Y20,tY] (.tup [lV,(.slice I)])),
 (183,zzv [.str] .bool),
 (184,zzv [(.slice .str),.str] .bool),
 (185,zzv [I] (.tup [I,I,I])),
 (186,zzv [I,I,I] (.tup [I,I])),
 (187,zzv [I,I] I),
 (189,zzv [Y0,I] .bool),
 (190,zzv [(.slice I),I] I),
 (193,zzv [(.slice kH),(.fn [kH] .bool)] .bool),
 (194,zzv [kH,(.ref sA)] .bool),
 (195,zzv [.bool] lV),
 (196,zzv [eN,I,I] lV),
 (197,zzv [(.slice I),(.fn [I] .bool)] .bool),
 (198,zzv [I,(.ref I)] .bool),
 (199,zzv [tY,I] I),
 (200,zzv [tY] (.tup [I,I])),
 (201,zzv [Y20,I] lV),
 (202,zzv [I,(.slice lV)] lV),
 (203,zzv [(.slice (.slice I))] (.slice I)),
 (204,zzv [(.slice .str),.str] I),
 (205,zzv [I,I,I] I),
 (206,zzv [(.slice kH),(.fn [kH] .bool)] I),
 (207,zzv [(.slice I),(.fn [I] .bool)] I),
 (208,zzv [tY] (.tup [I,I])),
 (209,zzv [I] Y21),
 (210,zzv [I] (.tup [I,.bool])),
 (211,zzv [.bool] lV),
 (212,zzv [I] I),
 (213,zzv [I,I,I] I),
 (214,⟨[.nils .bool,I],(.slice I),(.row 3 I)⟩),
 (215,zzv [I,I] I)]
def Qu:List (Nat×CSig):=[
 (29,⟨[],[gm,gm],I⟩),
 (41,⟨[],[kH],.bool⟩),
 (57,⟨[],[gm],.bool⟩),
 (62,⟨[(.ref Y8)],[I,I],I⟩),
 (113,⟨[],[I],.bool⟩),
 (114,⟨[(.ref Y8)],[I],.bool⟩),
 (117,⟨[(.ref Y8)],[I],.bool⟩),
 (118,⟨[(.ref Y8)],[I],.bool⟩),
 (180,⟨[(.ref I)],[Y4],.bool⟩),
 (188,⟨[(.ref I),(.ref I),(.ref Y0)],[(.fn [I] .bool)],(.tup [])⟩),
 (194,⟨[(.ref sA)],[kH],.bool⟩),
 (198,⟨[(.ref I)],[I],.bool⟩)]
noncomputable def ctx:Ctx:={P:=Tryz.prog,cap:=bH Qu,sig:=bH wV,aun:=λ_=>none,glob:=Ow 2 [6,7,10,12,13,14,15,16,20,21]}
abbrev Oe (i:Nat):Sig:=(bH wV i).getD default
def cF (a b:List Nat)(f:Func)(i:Nat)(l:List Nat):Option PC:=mK {ctx with fr:=a,nh:=b} f (Oe i) l
def aU {o:Option PC}{t:PT}{l:List (Shp×PT)}(h:o.map told=some (t,l)):tree (ab o)=t:=bF (F:=λ_=>(t,l)) h
def av (o:Option PC){p:PT×List (Shp×PT)}(h:o.map told=some p):o=some (ab o):=axM (F:=λ_=>p) h
def ax (l a b:List Nat){f:Nat}{fn:Func}{c:PC}(h0:ctx.P.funcs[f]?=some fn)(h1:ctx.sig f=some (Oe f))(h2:mK {ctx with fr:=a,nh:=b} fn (Oe f) l=some c):∃fn s ids fr nh,ctx.P.funcs[f]?=some fn/\ctx.sig f=some s/\mK {ctx with fr:=fr,nh:=nh} fn s ids=some c:=⟨fn,Oe f,l,a,b,h0,h1,h2⟩
abbrev kX:PE:=.setc (.con (.agg [(.int 0),(.int 0),(.int 0),(.int 0),(.int 0),(.int 0),(.int 0),(.int 0),(.int 0),(.int 0),(.int 0),(.int 0),(.int 0),(.int 0),(.int 0),(.list []),(.list []),(.list []),(.list [])])) 0 (.mk [(aA 15 (.setc IE 0 (.mk [(pi 0),(pi 1),(pi 0),(pi 1000),(pi 0),(.mk [(pi 3),(pi 40),(pi 0)]),(pi 2),(pi 0),(pi 0),(pi (-1)),(pi 0),(pi 1),(pi 1)]))),(.lst [(aA 9 (.setc z9 0 (.mk [(pi 0),(pi 0),(pi 0),(pi (-1)),(pi (-1)),(pi 0),(pi 2),(pi 0),(pi 0)]))),(aA 9 (.setc z9 0 (.mk [(pi 1),(pi 0),(pi 1),(pi (-1)),(pi (-1)),r0,(pi 3),(pi 0),(pi 0)])))]),pL,pL,(.lst [(.mk [(pi 0),(pi 0),r1]),(.mk [(pi 0),(pi 1),(pi 1)])])])
abbrev GU:PE:=.setc (.con (.agg [(.list []),(.list []),(.list []),(.list []),(.list []),(.list []),(.list []),(.list [])])) 0 (.mk [(.lst [(.con (.v (.string ⟨#[102,114,97,110,99]⟩)))]),(.lst [(.mk [(.con (.v (.string ⟨#[76,121,111,110]⟩))),(pi 0),(pi 0),pL,pL,pL])]),(.lst [(.mk [(pi 3)]),(.mk [(pi 5)])]),(.lst [(.mk [(.con (.v (.string ⟨#[97]⟩))),(pi 0),(pi 1)]),(.mk [(.con (.v (.string ⟨#[98]⟩))),(pi 0),(pi 0)])]),(.lst [(.mk [(pc (.setc (.con (.agg [(.v (.string ⟨#[]⟩)),(.bool false),(.list []),(.list [])])) 0 (.mk [(.con (.v (.string ⟨#[103,101,110,101,118,97]⟩))),pF,pL,(.lst [(.mk [(pi 0),(.mk [(pc (.setc (.con (.agg [(.int 0),(.int 0),(.list [])])) 0 (.mk [(pi 1),(pi 1),pL])) 0),(pc (.setc (.con (.agg [(.int 0),(.int 0),(.list [])])) 0 (.mk [(pi 1),(pi 1),pL])) 1),pL])]),(.mk [(pi 1),(.mk [(pc (.setc (.con (.agg [(.int 0),(.int 0),(.list [])])) 0 (.mk [(pi 1),(pi 1),pL])) 0),(pc (.setc (.con (.agg [(.int 0),(.int 0),(.list [])])) 0 (.mk [(pi 1),(pi 1),pL])) 1),pL])]),(.mk [(pi 2),(.mk [(pi 2),(pi 15),pL])])])])) 0),(pc (.setc (.con (.agg [(.v (.string ⟨#[]⟩)),(.bool false),(.list []),(.list [])])) 0 (.mk [(.con (.v (.string ⟨#[103,101,110,101,118,97]⟩))),pF,pL,(.lst [(.mk [(pi 0),(.mk [(pc (.setc (.con (.agg [(.int 0),(.int 0),(.list [])])) 0 (.mk [(pi 1),(pi 1),pL])) 0),(pc (.setc (.con (.agg [(.int 0),(.int 0),(.list [])])) 0 (.mk [(pi 1),(pi 1),pL])) 1),pL])]),(.mk [(pi 1),(.mk [(pc (.setc (.con (.agg [(.int 0),(.int 0),(.list [])])) 0 (.mk [(pi 1),(pi 1),pL])) 0),(pc (.setc (.con (.agg [(.int 0),(.int 0),(.list [])])) 0 (.mk [(pi 1),(pi 1),pL])) 1),pL])]),(.mk [(pi 2),(.mk [(pi 2),(pi 15),pL])])])])) 1),pL,(pc (.setc (.con (.agg [(.v (.string ⟨#[]⟩)),(.bool false),(.list []),(.list [])])) 0 (.mk [(.con (.v (.string ⟨#[103,101,110,101,118,97]⟩))),pF,pL,(.lst [(.mk [(pi 0),(.mk [(pc (.setc (.con (.agg [(.int 0),(.int 0),(.list [])])) 0 (.mk [(pi 1),(pi 1),pL])) 0),(pc (.setc (.con (.agg [(.int 0),(.int 0),(.list [])])) 0 (.mk [(pi 1),(pi 1),pL])) 1),pL])]),(.mk [(pi 1),(.mk [(pc (.setc (.con (.agg [(.int 0),(.int 0),(.list [])])) 0 (.mk [(pi 1),(pi 1),pL])) 0),(pc (.setc (.con (.agg [(.int 0),(.int 0),(.list [])])) 0 (.mk [(pi 1),(pi 1),pL])) 1),pL])]),(.mk [(pi 2),(.mk [(pi 2),(pi 15),pL])])])])) 3)])]),pL,pL,pL])
abbrev zA:PE:=.ai .quo .i64 (bm (aF (bm (.ai .rem .i64 (aF r0 (pi 730425)) (pi 146097)) (.ai .quo .i64 (.ai .rem .i64 (aF r0 (pi 730425)) (pi 146097)) (pi 1460))) (.ai .quo .i64 (.ai .rem .i64 (aF r0 (pi 730425)) (pi 146097)) (pi 36524))) (.ai .quo .i64 (.ai .rem .i64 (aF r0 (pi 730425)) (pi 146097)) (pi 146096))) (pi 365)
abbrev kZ:PE:=.con (.v (.string ⟨#[0,1,2,2,3,3,3,3,4,4,4,4,4,4,4,4,5,5,5,5,5,5,5,5,5,5,5,5,5,5,5,5,6,6,6,6,6,6,6,6,6,6,6,6,6,6,6,6,6,6,6,6,6,6,6,6,6,6,6,6,6,6,6,6,7,7,7,7,7,7,7,7,7,7,7,7,7,7,7,7,7,7,7,7,7,7,7,7,7,7,7,7,7,7,7,7,7,7,7,7,7,7,7,7,7,7,7,7,7,7,7,7,7,7,7,7,7,7,7,7,7,7,7,7,7,7,7,7,8,8,8,8,8,8,8,8,8,8,8,8,8,8,8,8,8,8,8,8,8,8,8,8,8,8,8,8,8,8,8,8,8,8,8,8,8,8,8,8,8,8,8,8,8,8,8,8,8,8,8,8,8,8,8,8,8,8,8,8,8,8,8,8,8,8,8,8,8,8,8,8,8,8,8,8,8,8,8,8,8,8,8,8,8,8,8,8,8,8,8,8,8,8,8,8,8,8,8,8,8,8,8,8,8,8,8,8,8,8,8,8,8,8,8,8,8,8,8,8,8,8,8,8,8,8,8,8]⟩))
abbrev zD:PE:=.ai .or .u64 (.ai .shl .u64 r0 (.conv .u64 rU)) (.ai .shr .u64 r1 (.ai .sub .u64 (.con (.v (.int .u64 64))) (.conv .u64 rU)))
abbrev gD:PE:=.con (.agg [(.bool false),(.int 0)])
abbrev tw:PE:=.ai .sub .u64 (.ai .add .u64 (.ai .mul .u64 bK (.con (.v (.int .u64 4294967296)))) dx) (.ai .mul .u64 de r2)
abbrev rO:PE:=.ai .shr .u64 (.ai .shl .u64 r2 (.conv .u64 rU)) (.con (.v (.int .u64 32)))
abbrev Np:PE:=.ai .quo .i64 (aF (.ai .mul .i64 (pi 5) (bm (.ai .rem .i64 (aF r0 (pi 730425)) (pi 146097)) (bm (aF (.ai .mul .i64 (pi 365) zA) (.ai .quo .i64 zA (pi 4))) (.ai .quo .i64 zA (pi 100))))) (pi 2)) (pi 153)
abbrev zr:PE:=.con (.agg [(.int 0),(.int 0),(.int 0),(.int 0),(.int 0),(.int 0),(.int 0),(.int 0),(.int 0),(.int 0),(.int 0),(.int 0),(.int 0),(.int 0),(.int 0),(.list []),(.list []),(.list []),(.list [])])
abbrev tu:PE:=.deref (.con (.ref (.agg [(.int 6),(.int 7),(.int 10),(.int 12),(.int 13),(.int 14),(.int 15),(.int 16),(.int 20),(.int 21)])))
abbrev lO:PE:=.setc z3 0 (.mk [(pc (.mk [r0]) 5),(pc (.mk [r0]) 6),(pc (.mk [r0]) 7)])
abbrev M8:PE:=.put (.put (.put (.put (.con (.map [])) (pi 7) (aI (.ai .and .i64 (pc o6 13) (pi 1)) (pi 0))) (pi 8) (peq (pc o6 2) (pi (-1)))) (pi 9) (aI (.ai .and .i64 (pc o6 13) (pi 4)) (pi 0))) (pi 10) (aI (.ai .and .i64 (pc o6 13) (pi 2)) (pi 0))
abbrev kY:PE:=.con (.v (.int .u64 4294967296))
abbrev Vj:PE:=.mk [(pc (.mk [r0]) 10),(pc (.mk [r0]) 11),(pc (.mk [r0]) 12),(pc (.mk [r0]) 13),(pc (.mk [r0]) 14),(pc (.mk [r0]) 15),(pc (.mk [r0]) 16),(pc (.mk [r0]) 17),(pc (.mk [r0]) 18),(pc (.mk [r0]) 19),(pc (.mk [r0]) 20),(pc (.mk [r0]) 21),(pc (.mk [r0]) 22),(pc (.mk [r0]) 23),(pc (.mk [r0]) 24),(pc (.mk [r0]) 25),(pc (.mk [r0]) 26),(pc (.mk [r0]) 27),(pc (.mk [r0]) 28)]
abbrev wD:PE:=.con (.v (.int .u64 32))
abbrev nj:PE:=.con (.agg [(.int 0),(.int 0),(.list [])])
abbrev CS:PE:=.con (.agg [(.int 0),(.int 0),(.int 0),(.int 0),(.int 0),(.int 0),(.bool false)])
abbrev Vk:PE:=.con (.agg [(.list []),(.list []),(.list []),(.list []),(.list []),(.list []),(.list []),(.list []),(.int 0),(.int 0),(.int 0),(.int 0),(.int 0),(.int 0),(.int 0),(.int 0),(.int 0),(.int 0),(.int 0),(.int 0),(.int 0),(.int 0),(.int 0),(.int 0),(.int 0),(.list []),(.list []),(.list []),(.list []),(.int 0),(.int 0)])
abbrev cO:PE:=pi 4294967296
abbrev me:PE:=.con (.agg [(.list []),(.int 0)])
abbrev zz:PE:=.con (.v (.int .u64 4294967295))
abbrev qa:PE:=.setc z9 0 (pn (pc (.mk [r1]) 15) r2)
abbrev CT:PE:=.mk [(pc (.setc gD 0 eF) 0),(pc (.setc gD 0 eF) 1)]
abbrev CU:PE:=.setc z9 0 (pn (pc (.mk [r2]) 15) (pc (.mk [r2]) 19))
abbrev kz:PE:=.setc (.mk [r3]) 18 pL
abbrev rL:PE:=.conv .u64 rU
abbrev Vl:PE:=.put (.put (.put (.con (.map [])) (pi 0) (pc o6 3)) (pi 1) (pc o6 14)) (pi 2) (pc o6 5)
abbrev Nb:PE:=.pick (.pick (peq (.tget tA 0) (pi 0)) (pc cm 0) pF) (.setc cm 1 (.mn (.mx (pc cm 1) (pi 0)) (pi 20000))) cm
abbrev GV:PE:=.mk [(pc (.setc o4 0 (.mk [pF,(pi 0)])) 0),(pc (.setc o4 0 (.mk [pF,(pi 0)])) 1)]
abbrev CV:PE:=.con (.agg [(.bool false),(.int 0),(.int 0),(.list []),(.int 0)])
abbrev Nc:PE:=.con (.agg [(.int 0),(.int 0),(.bool false)])
abbrev Nd:PE:=.ai .shr .u64 (.ai .sub .u64 (.ai .add .u64 (.ai .mul .u64 jW kY) bX) (.ai .mul .u64 cf r2)) r8
abbrev zB:PE:=.setc (.setc cm 3 (.tget CZ 0)) 4 (.tget CZ 1)
abbrev uY:PE:=.ai .shr .u64 r0 wD
abbrev jU:PE:=aA 8 (.mk [r0])
abbrev Nf:PE:=.con (.v (.int .u64 16))
abbrev jV:PE:=pc (.mk [r0]) 0
abbrev qd:PE:=.con (.v (.int .u64 8))
abbrev Ng:PE:=aF (bm (aF (.ai .mul .i64 (pi 12) (.tget gY 0)) (.tget gY 1)) (pi 1)) r1
abbrev ahT:PE:=.con (.agg [(.int 0),(.int 0),(.int 0),(.int 0),(.int 0),(.int 0),(.int 0),(.int 0),(.int 0),(.int 0),(.int 0),(.int 0),(.int 0),(.int 0),(.int 0),(.list []),(.list []),(.list []),(.list []),(.int 0),(.int 0),(.int 0),(.int 0),(.int 0)])
abbrev zC:PE:=pc (.mk [r0]) 2
abbrev lP:PE:=pc (.mk [r0]) 1
abbrev Vm:PE:=.pick (bk cf kY) pT (aS (.ai .mul .u64 cf dw) (.ai .add .u64 (.ai .mul .u64 kY bN) bX))
abbrev Vn:PE:=.pick (bk de kY) pT (aS (.ai .mul .u64 de dw) (.ai .add .u64 (.ai .mul .u64 kY bN) dx))
abbrev mf:PE:=.llen (pc o1 1)
abbrev Vo:PE:=.mk [(pc (.setc o4 0 (.mk [(pi 0),(pi 0),pL])) 0),(pc (.setc o4 0 (.mk [(pi 0),(pi 0),pL])) 1),pL]
abbrev Nh:PE:=.ai .sub .u64 zD (.ai .mul .u64 (.ai .quo .u64 zD rO) rO)
abbrev nk:PE:=.llen (pc o3 2)
abbrev Ni:PE:=.ai .sub .u64 tw (.ai .mul .u64 (.ai .quo .u64 tw r9) r9)
abbrev CW:PE:=.setc z3 0 (pn bR bX)
abbrev Nj:PE:=bk (.ai .sub .u64 (.con (.v (.int .u64 64))) rL) (pi 0)
abbrev Nk:PE:=.setc z2 0 (pn (pc o5 1) (pc (pn (pc o3 2) (pn o1 cf)) 0))
abbrev mh:PE:=.setc o4 0 o5
abbrev oN:PE:=.llen (pc o1 3)
abbrev ahU:PE:=.pick (.pick (peq (.tget jC 0) (.con (.v (.int .u64 0)))) (aj (.tget jC 1) (.con (.v (.int .u64 1099511627776)))) pF) (.conv .i64 (.tget jC 1)) (pi 1099511627776)
abbrev Vp:PE:=aA 5 (.setc o8 0 (.mk [(pc cm 0),(pc cm 1),(pc cm 2),(.o 16394),(pc cm 4)]))
abbrev qe:PE:=.llen (pc o1 4)
abbrev ahV:PE:=.pick (.pick (.pick (aj (pc CU 2) (pi 0)) pT (bk (pc CU 2) (.llen (pc (.mk [r0]) 3)))) pT (aj r1 (pi 0))) pT (bk r1 (.llen (pc (.mk [r0]) 4)))
abbrev rM:PE:=pc (.mk [r0]) 15
abbrev Vq:PE:=.put (.con (.map [])) (pi 7) (aI (.ai .and .i64 (pc o6 13) (pi 1)) (pi 0))
abbrev GW:PE:=.ai .shl .u64 r2 rL
abbrev ahW:PE:=.ai .shl .u64 r1 rL
abbrev ahX:PE:=.ai .add .u64 (.ai .mul .u64 uY (.ai .and .u64 r1 zz)) (.ai .shr .u64 (.ai .mul .u64 (.ai .and .u64 r0 zz) (.ai .and .u64 r1 zz)) wD)
abbrev GX:PE:=.setc z9 0 (pn (pc (.mk [r0]) 25) r1)
abbrev ahY:PE:=.app o2 (.lst [(pc (.setc (.con (.agg [(.v (.string ⟨#[]⟩)),(.int 0),(.int 0),(.list []),(.list []),(.list [])])) 0 (pn bR bX)) 0)])
abbrev GY:PE:=bm (pi 2) (pc (pn o7 (pi 0)) 1)
abbrev mi:PE:=pn bX bN
abbrev Nl:PE:=.setc nj 0 (.sub (pn (pc o2 3) gY) 1 3)
abbrev tz:PE:=.llen (pc o1 2)
abbrev Nn:PE:=.ai .add .u64 (.ai .mul .u64 de kY) cf
abbrev No:PE:=.pick (aj r1 (pi 3)) (bm r0 (pi 1)) r0
abbrev CX:PE:=.mk [(pc o9 0),(pc o9 1)]
abbrev ahZ:PE:=.app o4 (.lst [(pc (.setc (.con (.agg [(.v (.string ⟨#[]⟩)),(.bool false),(.list []),(.list [])])) 0 (pn jD qj)) 0)])
abbrev ah0:PE:=.setc (.con (.agg [(.list []),(.list []),(.list []),(.list []),(.list []),(.list []),(.list []),(.list [])])) 0 bX
abbrev ah1:PE:=.put (.put (.put M8 (pi 11) (aI Ns Vv)) (pi 12) dx) (pi 13) (aI (.ai .and .i64 (pc o8 8) (pi 1)) (pi 0))
abbrev rN:PE:=pn r1 (pi 1)
abbrev qf:PE:=pn dw bR
abbrev wE:PE:=pi 1000000000
abbrev ah2:PE:=.setc o0 0 (.mk [(pi 100),(.setn (.setn o1 (pi 3) 0 (.mk [(pi 1),(pi 10)])) (pi 5) 0 (.mk [(pi 1),(pi 2)]))])
abbrev uZ:PE:=aF r8 (pi 1)
abbrev Vr:PE:=.put (.put Vl (pi 3) (pc o6 12)) (pi 4) (pc o8 0)
abbrev ah3:PE:=.pick (aS (.llen (pc (pn (pc o1 1) r3) 4)) (pi 70)) pT (aS (.llen (pc (pn (pc o1 1) r3) 5)) (pi 210))
abbrev rP:PE:=aj bX dx
abbrev GZ:PE:=.setc Nc 0 (pn gY jX)
abbrev rQ:PE:=.llen zC
abbrev ah4:PE:=.app o3 (.lst [(pc (.setc (.con (.agg [(.v (.string ⟨#[]⟩)),(.int 0),(.int 0)])) 0 (pn jX eF)) 0)])
abbrev ah5:PE:=.app o4 (.lst [(pc (.setc (.con (.agg [(.int 0),(.int 0),(.int 0),(.list [])])) 0 (pn eF ml)) 0)])
abbrev wF:PE:=pc (.mk [r0]) 5
abbrev wG:PE:=.llen (pc o1 0)
abbrev ah6:PE:=.an (.cb .eql (pc (pn r1 (pi 0)) 0) (pc CT 0)) (.an (peq (pc (pn r1 (pi 0)) 1) (pc CT 1)) pT)
abbrev ah7:PE:=.app (.o 69637) (.lst [(.mk [(pc (.setc z2 0 (pn mq tC)) 0),(pc (.setc z2 0 (pn mq tC)) 1)])])
abbrev G0:PE:=.ai .shr .u64 uY Nf
abbrev CY:PE:=.ai .add .u64 bN r9
abbrev Vs:PE:=.setc o4 0 (.mk [(pc o9 0),(pc o9 1),(pc o9 2)])
abbrev Vt:PE:=.setc (.setc o6 4 (.tget oO 0)) 5 (.tget oO 1)
abbrev Nq:PE:=peq r0 (.con (.v (.int .u64 0)))
abbrev ah8:PE:=.pick (.nt (.nt (.an (.an bX pT) (.nt pF)))) (.app (.o 1000) (.lst [(.tup [r5])])) (.o 1000)
abbrev wH:PE:=aF r3 (pi 1)
abbrev CN:PE:=aI (pi 100) (pi 0)
abbrev zt:PE:=pi 1099511627776
abbrev ahH:PE:=.pick (aS (aF Np (pi 3)) (pi 12)) (bm (aF Np (pi 3)) (pi 12)) (aF Np (pi 3))
abbrev ahI:PE:=.setc o4 0 (.mk [(pc (.setc gD 0 (.tget jh 0)) 0),(pc (.setc gD 0 (.tget jh 0)) 1)])
abbrev GN:PE:=.tget (.o 1000000013) 1
abbrev GO:PE:=.setc z9 0 (pn G3 la)
abbrev GP:PE:=.llen (pc (.mk [r0]) 4)
abbrev M1:PE:=.setc gD 0 (.mk [pT,(pi 1)])
abbrev M2:PE:=.setc gD 0 (.mk [pT,(pi 0)])
abbrev M3:PE:=bm (.llen (pc o3 3)) (pi 1)
abbrev zu:PE:=pn (pc o1 4) r4
abbrev Vc:PE:=peq (.sidx r0 r3) (.con (.v (.int .u8 95)))
abbrev ahJ:PE:=aF (.ai .mul .i64 (.ai .rem .i64 (bm (pc Mt 5) de) wE) (bm wE mq)) bX
abbrev ahK:PE:=.pick (.pick (peq (pc CW 0) r1) (bI (pc CW 1) r2) pF) (bI r2 (pc CW 2)) pF
abbrev zw:PE:=.mk [pF,(pi 0)]
abbrev zx:PE:=.llen (pc o1 7)
abbrev GQ:PE:=.con (.agg [(.int 0)])
abbrev GR:PE:=.ai .shr .u64 r0 Nf
abbrev ahL:PE:=aF zA (.ai .mul .i64 (pi 400) (.ai .quo .i64 (aF r0 (pi 730425)) (pi 146097)))
abbrev Vd:PE:=.app o5 (.lst [(pc (pn (pc o1 1) r6) 0)])
abbrev Ve:PE:=.app o4 (.lst [(pc (pn (pc o1 3) r5) 0)])
abbrev zy:PE:=aF r5 (pi 1)
abbrev CO:PE:=bk wD (pi 0)
abbrev ahM:PE:=.pick (aS (.tget ml 1) (pi 0)) (aF (.tget ml 0) (pi 1)) (.tget ml 0)
abbrev Vf:PE:=.setc CS 0 (.sub (pn TQ qh) 0 7)
abbrev M4:PE:=.con (.v (.int .u64 256))
abbrev M5:PE:=.ai .shr .u64 ahW wD
abbrev M6:PE:=.ai .and .u64 ahW zz
abbrev M7:PE:=.ai .and .u64 GW zz
abbrev wC:PE:=aj bR bK
abbrev CP:PE:=pc (.mk [r0]) 6
abbrev CQ:PE:=aF bR (pi 1)
abbrev Vg:PE:=.pick (bk r0 (pi 0)) (aj r0 r1) pF
abbrev CR:PE:=.llen (pc o1 5)
abbrev ahN:PE:=.setc o4 0 (.mk [(pc (.setc gD 0 Ny) 0),(pc (.setc gD 0 Ny) 1)])
abbrev ahO:PE:=.setc o4 0 (.mk [(pc (.setc gD 0 mj) 0),(pc (.setc gD 0 mj) 1)])
abbrev ahP:PE:=.setc me 0 (.mk [(.lst [(pi 1),(pi (-1)),(pi (-1))]),(pi (-1))])
abbrev ahQ:PE:=.pick (aI (pc o3 22) (pi (-1))) (bm (pc o8 6) (pc o3 22)) (pi 0)
abbrev M9:PE:=.con (.v (.int .u64 1))
abbrev ahR:PE:=.app o7 (.lst [(pc (pn (pc o3 3) (pc (.setc CS 0 qf) 2)) 2)])
abbrev Vh:PE:=.ai .rem .i64 (pn r8 dw) (pi 100)
abbrev Na:PE:=.ai .quo .u64 zD rO
abbrev GS:PE:=aA 19 (.mk [r2])
abbrev Vi:PE:=.con (.agg [(.int 0),(.list [])])
abbrev ahS:PE:=.app (.o 77829) (.lst [(.mk [(pc TR 0),(pc TR 1),(pc TR 2)])])
end Rm
set_option linter.unusedSimpArgs false
namespace Rm
open Go Cx Go.Sort
def wv (key:D->Int)(xs:List D){n:Nat}(i j:Fin n):Bool:=decide (key (xs.getD i .none)-key (xs.getD j .none)<0)
def oS (key:D->Int)(xs:List D)(n:Nat):Array (Fin (n+1)):=pdq (wv key xs) (Array.ofFn id) 0 (n+1) (Lib.bitLen (n+1)) true true
def gJ (key:D->Int)(xs:List D):List D:=
 match xs.length with
 |0=>[]
 |n+1=>(oS key xs n).toList.map λi:Fin (n+1)=>xs.getD i .none
def WZ (key:D->Int)(xs:List D)(n:Nat):SWO (wv key xs (n:=n)) where
 irrefl x:=by simp[wv]
 trans x y z h1 h2:=by simp[wv] at*;omega
 ntrans x y z h1 h2:=by simp[wv] at*;omega
def WV (key:D->Int)(xs:List D)(n:Nat):PermIn 0 (n+1) (Array.ofFn (id:Fin (n+1)->Fin (n+1))) (oS key xs n)/\SortedIn (wv key xs) 0 (n+1) (oS key xs n):=by
 have h:=pdq_sorts (wv key xs (n:=n+1)) (WZ key xs (n+1)) (Array.ofFn id) 0 (n+1) (Lib.bitLen (n+1)) true true (jI _) (by simp) (Or.inl rfl);exact⟨h.1,h.2⟩
def afJ {xs:List D}{n:Nat}(h:xs.length=n):(Array.ofFn (id:Fin n->Fin n)).toList.map (λi:Fin n=>xs.getD i .none)=xs:=by
 apply O7
 .simp[h]
 .intro i h1 h2;simp[h2]
def Ol (key:D->Int)(xs:List D)(n:Nat):(oS key xs n).size=n+1:=by
 have:=(WV key xs n).1.1;simpa using this
def se (key:D->Int)(xs:List D):(gJ key xs).Perm xs:=by
 unfold gJ;split
 .rename_i h;rw[vl.1 h]
 .rename_i n h;have h1:=(WV key xs n).1.2.2;have hz:=Ol key xs n;have e1:(oS key xs n).extract 0 (n+1)=oS key xs n:=by
   apply Array.ext
   .simp[hz]
   .intro i h1 h2;simp
  have e2:(Array.ofFn (id:Fin (n+1)->Fin (n+1))).extract 0 (n+1)=Array.ofFn id:=by simp
  rw[e1,e2] at h1;have h2:=h1.map λi:Fin (n+1)=>xs.getD i .none;rw[afJ h] at h2;exact h2
def ajj (key:D->Int)(xs:List D):(gJ key xs).Pairwise λa b=>key a<=key b:=by
 unfold gJ;split
 .exact .nil
 .rename_i n h;have h1:=(WV key xs n).2;have hz:=Ol key xs n;rw[IS,Pc];intro i j hi hj dG;have dc:i<(oS key xs n).size:=by simpa using hi
  have bB:j<(oS key xs n).size:=by simpa using hj
  have h2:=h1 i j (jI _) dG (by omega);rw[getElem!_pos _ i dc,getElem!_pos _ j bB] at h2;simp[wv] at h2;simp;omega
def E7 {α:Type}{f:α->List Value}{k:Nat}(hk:∀x,(f x).length=k):∀(l:List α) (i j:Nat) (x:α),l[i]?=some x->j<k->(l.flatMap f)[i*k+j]?=(f x)[j]?
 |[],i,j,x,h,_=>by simp at h
 |y::l,0,j,x,h,hj=>by
  simp at h;subst h;rw[vk,Po,fQ,nD (by rw[hk];exact hj)]
 |y::l,i+1,j,x,h,hj=>by
  rw[vk,nE (by rw[hk,j7];omega),hk,show(i+1)*k+j-k=i*k+j by rw[j7];omega];exact E7 hk l i j x (by simpa using h) hj
def E8 {α:Type}{f:α->List Value}{k:Nat}(hk:∀x,(f x).length=k)(l:List α):(l.flatMap f).length=l.length*k:=by
 induction l with
 |nil=>simp
 |cons x l ih=>rw[vk,mE,ih,hk,qA,j7];omega
def BJ {α:Type}[Inhabited α]{enc:α->List Value}{k:Nat}(hk:∀x,(enc x).length=k)(d:Array α):(flatK enc k d).toList=d.toList.flatMap enc:=by
 apply vj;intro t;by_cases ht:t<d.size*k
 .have k0:0<k:=by rcases Am k with h|h;·subst h;simp at ht
                  .exact h
  have hi:t/k<d.size:=(xE k0).2 ht;have hm:t%k<k:=qB _ k0;have e:=E7 hk d.toList (t/k) (t%k) d[t/k] (by simp[hi]) hm;rw[show t/k*k+t%k=t by rw[xF];exact Al t k] at e;rw[e];have h1:=get_flatK enc k d t ht;have hl:(enc d[t/k]).length=k:=hk _;rw[getElem!_pos _ t (by simpa using ht),getElem!_pos d _ hi,getElem!_pos _ (t%k) (by rw[hl];exact hm)] at h1;rw[oY,iM (by simpa using ht),h1,aW (by rw[hl];exact hm)]
 .rw[j5 (by simp;omega),j5 (by rw[E8 hk];simp;omega)]
def ap2 {α:Type}[Inhabited α]{enc:α->Value}{w:World}{g n:Nat}{os:Array Obj}{cur:Array Value}{e:TypeId}{fr:Nat×Nat}(d:Array α)(hb:w.heap[g]?=some (.cells cur e fr)):
 (grow (putRow enc (Sort.ahead w n) g 0 d) os).heap[g]?=some (.cells (putCells enc 0 d cur) e fr):=by
 have hg:g<w.heap.size:=(ei.1 hb).1;rw[heap_grow_old _ _ (by simpa using hg)];simp[putRow,mapBlock,Sort.ahead,OW,hb,onCells]
def Rr {α:Type}[Inhabited α]{enc:α->Value}{w:World}{g n:Nat}{os:Array Obj}(d:Array α):w.grownBy (grow (putRow enc (Sort.ahead w n) g 0 d) os) (some g):=by
 refine⟨rfl,rfl,rfl,by simp,λk hk au=>?_⟩;rw[heap_grow_old _ _ (by simpa using hk)];have:g≠k:=λe=>au (by rw[e]);simp[putRow,mapBlock,Sort.ahead,OW,this]
def axy {α:Type}[Inhabited α]{enc:α->Value}(cur:Array Value)(d:Array α)(h:d.size<=cur.size):(putCells enc 0 d cur).toList.take d.size=d.toList.map enc:=by
 apply vj;intro j;by_cases hj:j<d.size
 .rw[DN hj,oY];simp[putCells,hj,show j<cur.size by omega]
 .rw[aap (by omega),j5 (by simp;omega)]
def ahq {α:Type}[Inhabited α]{enc:α->Value}{w:World}{base g cap n m k:Nat}{e:TypeId}{os:Array Obj}{cur:Array Value}{d:Array α}(hd:d.size=m*k)(apN:base<=g)(hb:w.heap[g]?=some (.cells cur e (0,0)))
 (h1:m<=cap) (h2:cap<=maxLen) (h3:cur.size=cap*k):
 (grow (putRow enc (Sort.ahead w n) g 0 d) os).ownsRow base e k (.slice (some ⟨g,0,none⟩) m cap) m (d.toList.map enc):=
 ⟨by simp[hd],.inr ⟨g,cap,_,rfl,apN,ap2 d hb,h1,h2,by simp[putCells,h3],by rw[<-hd];exact axy cur d (by rw[hd,h3];exact ka _ h1)⟩⟩
end Rm
namespace Rm
open Go Go.Proofs Cx Go.RowKit
abbrev tI:Ty:=.int .i64
abbrev tE:Ty:=.agg [tI,tI,tI,tI,tI,tI,.bool]
def bT (d:D):List Value:=[.int .i64 (d.c 0).i,.int .i64 (d.c 1).i,.int .i64 (d.c 2).i,.int .i64 (d.c 3).i,.int .i64 (d.c 4).i,.int .i64 (d.c 5).i,.bool (d.c 6).b]
def nX (d:D):(bT d).length=7:=rfl
def Ad (n:Int):Prop:=IntKind.i64.min<=n/\n<=IntKind.i64.max
def vh (d:D):Prop:=∃(a b c e f g:Int) (h:Bool),d=.agg [.int a,.int b,.int c,.int e,.int f,.int g,.bool h]/\Ad a/\Ad b/\Ad c/\Ad e/\Ad f/\Ad g
def vh.of_rep {cap:Nat->Option CSig}{V:Im}{v:Value}{d:D}(h:Rep cap V tE v d):vh d/\v=.agg (bT d).toArray:=by
 obtain⟨vs,ds,rfl,rfl,h1,h2,h3,_⟩:=h.agg_inv
 match vs,ds,h1,h2 with
 |[x0,x1,x2,x3,x4,x5,x6],[a0,a1,a2,a3,a4,a5,a6],_,_=>
  obtain⟨n0,e0,f0,g0⟩:=(h3 0 _ rfl).int_inv;obtain⟨n1,e1,f1,g1⟩:=(h3 1 _ rfl).int_inv;obtain⟨n2,e2,f2,g2⟩:=(h3 2 _ rfl).int_inv;obtain⟨n3,e3,f3,g3⟩:=(h3 3 _ rfl).int_inv;obtain⟨n4,e4,f4,g4⟩:=(h3 4 _ rfl).int_inv;obtain⟨n5,e5,f5,g5⟩:=(h3 5 _ rfl).int_inv;obtain⟨b,e6,f6⟩:=(h3 6 _ rfl).bool_inv;simp only[su,DL] at e0 f0 e1 f1 e2 f2 e3 f3 e4 f4 e5 f5 e6 f6;subst e0 f0 e1 f1 e2 f2 e3 f3 e4 f4 e5 f5 e6 f6;exact⟨⟨n0,n1,n2,n3,n4,n5,b,rfl,g0,g1,g2,g3,g4,g5⟩,rfl⟩
def vh.rep {cap:Nat->Option CSig}{V:Im}{d:D}(h:vh d):Rep cap V tE (.agg (bT d).toArray) d:=by
 obtain⟨a,b,c,e,f,g,h,rfl,h1,h2,h3,h4,h5,h6⟩:=h;refine .agg [tI,tI,tI,tI,tI,tI,.bool] [.int .i64 a,.int .i64 b,.int .i64 c,.int .i64 e,.int .i64 f,.int .i64 g,.bool h] _ rfl rfl (λi t hi=>?_) (λi t hi=>?_)
 .match i,hi with
  |0,hi=>cases hi;exact .int _ _ h1.1 h1.2
  |1,hi=>cases hi;exact .int _ _ h2.1 h2.2
  |2,hi=>cases hi;exact .int _ _ h3.1 h3.2
  |3,hi=>cases hi;exact .int _ _ h4.1 h4.2
  |4,hi=>cases hi;exact .int _ _ h5.1 h5.2
  |5,hi=>cases hi;exact .int _ _ h6.1 h6.2
  |6,hi=>cases hi;exact .bool _
 .match i,hi with
  |0,hi=>cases hi;rfl
  |1,hi=>cases hi;rfl
  |2,hi=>cases hi;rfl
  |3,hi=>cases hi;rfl
  |4,hi=>cases hi;rfl
  |5,hi=>cases hi;rfl
  |6,hi=>cases hi;rfl
def abS {cap:Nat->Option CSig}{V:Im}{cells:List Value}{xs:List D}(hl:cells.length=xs.length*7)(h:dy cap V tE cells xs):cells=xs.flatMap bT/\∀x,x∈xs->vh x:=by
 obtain⟨vs,bJ,RN⟩:=h;have hE:∀i (hi:i<xs.length),vh xs[i]/\vs i=.agg (bT xs[i]).toArray:=λi hi=>vh.of_rep (bJ i _ (aW hi));constructor
 .apply vj;intro t;by_cases ht:t<xs.length*7
  .have hi:t/7<xs.length:=by omega
   have hm:t%7<7:=by omega
   have e1:=E7 nX xs (t/7) (t%7) _ (aW hi) hm;have e2:t/7*7+t%7=t:=by omega
   rw[e2] at e1;have hu:=aW (show t%7<(bT xs[t/7]).length from hm);have:=RN (t/7) (t%7) _ hi (by rw[(hE _ hi).2];show(bT xs[t/7]).toArray[t%7]?=_;rw[xx];exact hu);have e3:t/7*tE.size+t%7=t:=by show t/7*7+t%7=t;exact e2
   rw[e3] at this;rw[this,e1,hu]
  .rw[j5 (by omega),j5 (by rw[E8 nX];omega)]
 .intro x hx;obtain⟨i,hi,rfl⟩:=fm hx;exact(hE i hi).1
def abT {cap:Nat->Option CSig}{V:Im}{xs:List D}(h:∀x,x∈xs->vh x):dy cap V tE (xs.flatMap bT) xs:=by
 refine⟨λi=>.agg (bT (xs.getD i .none)).toArray,λi x hx=>?_,λi j u hi hj=>?_⟩
 .have e:xs.getD i .none=x:=by rw[aE,hx];rfl
  show Rep cap V tE (.agg (bT (xs.getD i .none)).toArray) x;rw[e];exact(h x (j6 hx)).rep
 .have hx:=aW hi;have e:xs.getD i .none=xs[i]:=by rw[aE,hx];rfl
  have hj:(bT (xs.getD i .none)).toArray[j]?=some u:=hj;rw[e,xx] at hj;have bB:(bT xs[i])[j]?=some u:=hj;have hj7:j<7:=by have:=(eG.1 bB).1;simpa [bT] using this
  show(xs.flatMap bT)[i*7+j]?=some u;rw[E7 nX xs i j _ hx hj7];exact bB
def anj (xs:List D):∀v∈xs.flatMap bT,v.oneCell'=true:=by
 intro v hv;obtain⟨x,_,hx⟩:=xz.1 hv;simp[bT] at hx;rcases hx with rfl|rfl|rfl|rfl|rfl|rfl|rfl<;>rfl
def WE {C:Ctx}{g N m cap k n:Nat}{T:TypeId}{e:Ty}{rest:List Sh}{ds:List D}{V:Im}{own:Nat->Option Nat}{hv:Nat->Value}{w:World}{args:Array Value}{cx:Nat->Prop}{α:Type}[Inhabited α]{enc:α->Value}{F:Array α}{os:Array Obj}{cur:Array Value}{ys:List D}
 (hk:e.size=k) (ar:V.ok w) (bo:∀k,V.m k≠some cC) (bu:∀k j,own k=some j->N<=k/\k<w.heap.size/\(∀o,V.c k o=none)/\V.m k=none)
 (dP:∀k,cx k->k<w.heap.size/\own k=none/\(∀o,V.c k o=none)/\V.m k=none)
 (e1:hv 0=.slice (some ⟨g,0,none⟩) m cap) (e2:N<=g) (e3:w.heap[g]?=some (.cells cur T (0,0))) (e4:m<=cap) (e5:cap<=maxLen) (e6:cur.size=cap*k) (ox:own g=some 0) (oF:ys.length=m) (hF:F.size=m*k)
 (dt:dy C.cap V e (F.toList.map enc) ys) (ha0:args.getD 0 undef=hv 0) (s9:rest.all pR=true):
 ∃v V' own' hv' dr ng,Ending.returned (.tuple #[])=Ending.returned v/\D.tup [.tup [],.list ys]=.tup (dr::ng)/\ng.length=1/\V.le V'/\V'.ok (Go.Sort.grow (Go.Sort.putRow enc (Go.Sort.ahead w n) g 0 F) os)/\Below 0 w (Go.Sort.grow (Go.Sort.putRow enc (Go.Sort.ahead w n) g 0 F) os)/\
  (∀k,k<w.heap.size->own k=none->(Go.Sort.grow (Go.Sort.putRow enc (Go.Sort.ahead w n) g 0 F) os).heap[k]?=w.heap[k]?)/\
  (∀k o x,V'.c k o=some x->(V.c k o=some x\/N<=k)/\¬cx k)/\(∀k x,V'.m k=some x->(V.m k=some x\/N<=k)/\¬cx k)/\(∀k,V'.m k=some cC->N<=k->k<w.heap.size->own k≠none)/\
  (∀k j,own' k=some j->N<=k/\k<(Go.Sort.grow (Go.Sort.putRow enc (Go.Sort.ahead w n) g 0 F) os).heap.size/\(∀o,V'.c k o=none)/\V'.m k=none/\(k<w.heap.size->own k≠none))/\
  (∀(t:Nat) (sh:Sh),(Sh.obj 0 0::rest)[t]?=some sh->pR sh=false->aG C (fb (.obj 0 0::rest) [(0,.row T e)]) (lM [(0,.row T e)] ds ng) V' hv' sh (args.getD t undef) (ds.getD t .none))/\
  (∀j,bZ C (fb (.obj 0 0::rest) [(0,.row T e)]) (lM [(0,.row T e)] ds ng) V' own' hv' (Go.Sort.grow (Go.Sort.putRow enc (Go.Sort.ahead w n) g 0 F) os) N j (eh [(0,.row T e)] j))/\Rep C.cap V' (.tup []) v dr:=by
 obtain⟨_,_,hgc,uH⟩:=bu g 0 ox;have fA:=Rr (enc:=enc) (w:=w) (g:=g) (n:=n) (os:=os) F;have Ca:=ahq (enc:=enc) (w:=w) (base:=N) (n:=n) (os:=os) (m:=m) (k:=k) hF e2 e3 e4 e5 e6;generalize Go.Sort.grow (Go.Sort.putRow enc (Go.Sort.ahead w n) g 0 F) os=w' at*;have ix:∀k,k<w.heap.size->k≠g->w'.heap[k]?=w.heap[k]?:=λk hk au=>fA.block k hk (λe=>au (by cases e;rfl));have acX:∀k o x,V.c k o=some x->k≠g:=λk o x hx e=>by subst e;rw[hgc o] at hx;cases hx
 have aqP:∀k x,V.m k=some x->k≠g:=λk x hx e=>by subst e;rw[uH] at hx;cases hx
 refine⟨.tuple #[],V,λk=>if own k=some 0 then some 0 else none,hv,.tup [],[.list ys],rfl,rfl,rfl,.refl V,
  ⟨λk o x hx=>by rw[World.cell?_of_block (ix k (World.block_lt_of_cell? w (a:=⟨k,o,none⟩) (ar.c k o x hx)) (acX k o x hx))];exact ar.c k o x hx,λk x hx=>(ar.m k x hx).keep (ix k (ar.m k x hx).lt (aqP k x hx)),ar.fz λk o x hx=>ix k (World.block_lt_of_cell? w (a:=⟨k,o,none⟩) (ar.c k o x hx)) (acX k o x hx)⟩,
  ⟨fA.os,fA.tape,fA.output,fA.size,λk hk=>by omega⟩,λk hk hn=>ix k hk (λe=>by subst e;rw[ox] at hn;cases hn),
  λk o x hx=>⟨.inl hx,λhc=>by rw[(dP k hc).2.2.1 o] at hx;cases hx⟩,λk x hx=>⟨.inl hx,λhc=>by rw[(dP k hc).2.2.2] at hx;cases hx⟩,λk hx=>absurd hx (bo k),λk j hk=>?_,λt sh hs hd=>?_,λj=>?_,
  .tup [] [] [] rfl rfl (λi t hi=>by simp at hi)⟩
 .by_cases ho:own k=some 0
  .obtain⟨g1,g2,g3,g4⟩:=bu k 0 ho;exact⟨g1,ln g2 fA.size,g3,g4,λ_ hn=>by rw[ho] at hn;cases hn⟩
  .simp[ho] at hk
 .match t,hs with
  |0,hs=>
   simp at hs;subst hs;exact⟨aX _,λ_=>ha0⟩
  |t+1,hs=>
   have:=cN.1 s9 sh (j6 (by simpa using hs));rw[hd] at this;cases this
 .show bZ C _ _ V _ hv _ N j (bif Nat.beq 0 j then .row T e else .dead);cases hb:Nat.beq 0 j
  .trivial
  .have hj:=ay hb;subst hj;refine⟨F.toList.map enc,ys,rfl,?_,dt,λk hk=>?_⟩
   .rw[e1,hk,oF];exact Ca
   .rw[e1] at hk;simp[Value.ownBlock] at hk;subst hk;simp[ox]
def Sy {w:World}{g:Nat}{cur:Array Value}{T:TypeId}{F:Array Value}(hb:w.heap[g]?=some (.cells cur T (0,0)))(ht:cur.toList.take F.size=F.toList):Go.Sort.Holds id w g 0 F:=by
 intro j hj;refine⟨?_,by simp[World.frozen?,hb]⟩;have h1:(cur.toList.take F.size)[j]?=F.toList[j]?:=by rw[ht]
 rw[DN hj] at h1;simp only[World.cell?,hb,fQ];simp only[Option.isSome_none,xn,if_false];rw[<-oY,h1];simp[hj]
def aji {key:D->Int}{xs:List D}{n:Nat}(h:xs.length=n+1):gJ key xs=(oS key xs n).toList.map λi:Fin (n+1)=>xs.getD i .none:=by
 unfold gJ;split
 .omega
 .rename_i m hm;obtain rfl:m=n:=by omega
  rfl
def QG {cap:Nat->Option CSig}{V:Im}{t:Ty}{v:Value}{f:Nat}{ds:List D}(h:Rep cap V t v (.clo f ds)):∃(vs:List Value) (cs:CSig),v=.func (.func f) #[] vs.toArray/\cap f=some cs/\vs.length=cs.caps.length/\ds.length=cs.caps.length/\∀(i:Nat) (t:Ty),cs.caps[i]?=some t->Rep cap V t (vs.getD i undef) (ds.getD i .none):=by
 cases h with
 |fn f cs vs ds h1 h2 h3 h4=>exact⟨vs,cs,rfl,h1,h2,h3,h4⟩
end Rm
namespace Go.Proofs
open Go.Shelf
def Tryz.lays189_ren:Go.Shelf.Ren:=⟨λ|189=>63|125=>59|257=>106|128=>103|129=>104|294=>147|295=>148|296=>149|297=>150|298=>151|299=>152|216=>153|300=>154|301=>155|328=>173|329=>135|330=>136|331=>174|332=>175|215=>133|343=>192|n=>n,λ|28=>71|3=>3|46=>129|0=>0|51=>175|53=>148|4=>4|183=>168|182=>167|131=>172|5=>5|9=>9|218=>203|222=>207|228=>233|229=>136|n=>n,λ|n=>n⟩
def Tryz.lays189:Go.Proofs.Lays.n189 Tryz.prog Tryz.lays189_ren:={
 mixed:=by kernel_rfl
 f125:=Tryz.func59.trans (congrArg some (by kernel_rfl))
 f128:=Tryz.func103.trans (congrArg some (by kernel_rfl))
 f129:=Tryz.func104.trans (congrArg some (by kernel_rfl))
 f189:=Tryz.func63.trans (congrArg some (by kernel_rfl))
 f215:=Tryz.func133.trans (congrArg some (by kernel_rfl))
 f216:=Tryz.func153.trans (congrArg some (by kernel_rfl))
 f257:=Tryz.func106.trans (congrArg some (by kernel_rfl))
 f294:=Tryz.func147.trans (congrArg some (by kernel_rfl))
 f295:=Tryz.func148.trans (congrArg some (by kernel_rfl))
 f296:=Tryz.func149.trans (congrArg some (by kernel_rfl))
 f297:=Tryz.func150.trans (congrArg some (by kernel_rfl))
 f298:=Tryz.func151.trans (congrArg some (by kernel_rfl))
 f299:=Tryz.func152.trans (congrArg some (by kernel_rfl))
 f300:=Tryz.func154.trans (congrArg some (by kernel_rfl))
 f301:=Tryz.func155.trans (congrArg some (by kernel_rfl))
 f328:=Tryz.func173.trans (congrArg some (by kernel_rfl))
 f329:=Tryz.func135.trans (congrArg some (by kernel_rfl))
 f330:=Tryz.func136.trans (congrArg some (by kernel_rfl))
 f331:=Tryz.func174.trans (congrArg some (by kernel_rfl))
 f332:=Tryz.func175.trans (congrArg some (by kernel_rfl))
 f343:=Tryz.func192.trans (congrArg some (by kernel_rfl))
 t0:=Tryz.underlying0
 a0:=Tryz.isAgg0
 z0:=Tryz.sizeOf0
 v0:=Tryz.zeroValue0
 t3:=Tryz.underlying3
 a3:=Tryz.isAgg3
 z3:=Tryz.sizeOf3
 v3:=Tryz.zeroValue3
 t4:=Tryz.underlying4
 a4:=Tryz.isAgg4
 z4:=Tryz.sizeOf4
 v4:=Tryz.zeroValue4
 t5:=Tryz.underlying5
 a5:=Tryz.isAgg5
 z5:=Tryz.sizeOf5
 v5:=Tryz.zeroValue5
 t9:=Tryz.underlying9
 a9:=Tryz.isAgg9
 z9:=Tryz.sizeOf9
 v9:=Tryz.zeroValue9
 t28:=Tryz.underlying71
 a28:=Tryz.isAgg71
 z28:=Tryz.sizeOf71
 v28:=Tryz.zeroValue71
 t46:=Tryz.underlying129
 a46:=Tryz.isAgg129
 z46:=Tryz.sizeOf129
 v46:=Tryz.zeroValue129
 t51:=Tryz.underlying175
 a51:=Tryz.isAgg175
 z51:=Tryz.sizeOf175
 v51:=Tryz.zeroValue175
 t53:=Tryz.underlying148
 a53:=Tryz.isAgg148
 z53:=Tryz.sizeOf148
 v53:=Tryz.zeroValue148
 t131:=Tryz.underlying172
 a131:=Tryz.isAgg172
 z131:=Tryz.sizeOf172
 v131:=Tryz.zeroValue172
 t182:=Tryz.underlying167
 a182:=Tryz.isAgg167
 z182:=Tryz.sizeOf167
 v182:=Tryz.zeroValue167
 t183:=Tryz.underlying168
 a183:=Tryz.isAgg168
 z183:=Tryz.sizeOf168
 v183:=Tryz.zeroValue168
 t218:=Tryz.underlying203
 a218:=Tryz.isAgg203
 z218:=Tryz.sizeOf203
 v218:=Tryz.zeroValue203
 t222:=Tryz.underlying207
 a222:=Tryz.isAgg207
 z222:=Tryz.sizeOf207
 v222:=Tryz.zeroValue207
 t228:=Tryz.underlying233
 a228:=Tryz.isAgg233
 z228:=Tryz.sizeOf233
 v228:=Tryz.zeroValue233
 t229:=Tryz.underlying136
 a229:=Tryz.isAgg136
 z229:=Tryz.sizeOf136
 v229:=Tryz.zeroValue136}
open Go.Sort Go.RowKit in
def Tryz.slices_Sort_int (iS off cap:Nat)(zs:List Int)(w:World)(hH:Holds (Value.int .i64) w iS off zs.toArray)(hblk:iS<w.heap.size)(aJ:zs.length<4611686018427387904):
 Calls Tryz.prog 63 #[.slice (some ⟨iS,off,none⟩) zs.length cap] w λe w'=>
  e=.returned (.tuple #[])/\∃n os,w'=grow (putRow (Value.int .i64) (Sort.ahead w n) iS off (zs.mergeSort λx y=>decide (x<=y)).toArray) os:=Any.slices_Sort_int Tryz.lays189 iS off cap zs w hH hblk aJ
def Tryz.laysNm215_ren:Go.Shelf.Ren:=⟨λ|15=>60|n=>n,λ|22=>71|3=>3|4=>4|n=>n,λ|n=>n⟩
def Tryz.laysNm215:Go.Proofs.Lays2.n15 Tryz.prog Tryz.laysNm215_ren:={
 mixed:=by kernel_rfl
 f15:=Tryz.func60.trans (congrArg some (by kernel_rfl))
 t3:=Tryz.underlying3
 a3:=Tryz.isAgg3
 z3:=Tryz.sizeOf3
 v3:=Tryz.zeroValue3
 t4:=Tryz.underlying4
 a4:=Tryz.isAgg4
 z4:=Tryz.sizeOf4
 v4:=Tryz.zeroValue4
 t22:=Tryz.underlying71
 a22:=Tryz.isAgg71
 z22:=Tryz.sizeOf71
 v22:=Tryz.zeroValue71
 i3:=by kernel_rfl}
open Go.RowKit Go.Lib in
def Tryz.slices_Clone_int_nil (n c:Nat)(w:World):
 Calls Tryz.prog 60 #[.slice none n c] w λe w'=>e=.returned (.slice none 0 0)/\w'=w:=Any.slices_Clone_int_nil Tryz.laysNm215 n c w
open Go.RowKit Go.Lib in
def Tryz.slices_Clone_int_zero (a:Addr)(c:Nat)(w:World):
 Calls Tryz.prog 60 #[.slice (some a) 0 c] w λe w'=>∃v',e=.returned v'/\w'.ownsRow w.heap.size 3 1 v' 0 []/\v'≠.slice none 0 0/\Below w.heap.size w w':=Any.slices_Clone_int_zero Tryz.laysNm215 a c w
open Go.RowKit Go.Lib in
def Tryz.slices_Clone_int (b off n c:Nat)(zs:List Int)(w:World)(hz:n<=zs.length)(acQ:n*8<=140737488355328)(hc:∀j,j<zs.length->w.cell? ⟨b,off+j,none⟩=some (.int .i64 (zs.getD j 0))):
 Calls Tryz.prog 60 #[.slice (some ⟨b,off,none⟩) n c] w λe w'=>∃v',e=.returned v'/\w'.ownsRow w.heap.size 3 1 v' n ((zs.take n).map (Value.int .i64))/\v'≠.slice none 0 0/\Below w.heap.size w w':=Any.slices_Clone_int Tryz.laysNm215 b off n c zs w hz acQ hc
def Tryz.laysNm220_ren:Go.Shelf.Ren:=⟨λ|20=>64|n=>n,λ|22=>71|3=>3|4=>4|0=>0|n=>n,λ|n=>n⟩
def Tryz.laysNm220:Go.Proofs.Lays2.n20 Tryz.prog Tryz.laysNm220_ren:={
 mixed:=by kernel_rfl
 f20:=Tryz.func64.trans (congrArg some (by kernel_rfl))
 t0:=Tryz.underlying0
 a0:=Tryz.isAgg0
 z0:=Tryz.sizeOf0
 v0:=Tryz.zeroValue0
 t3:=Tryz.underlying3
 a3:=Tryz.isAgg3
 z3:=Tryz.sizeOf3
 v3:=Tryz.zeroValue3
 t4:=Tryz.underlying4
 a4:=Tryz.isAgg4
 z4:=Tryz.sizeOf4
 v4:=Tryz.zeroValue4
 t22:=Tryz.underlying71
 a22:=Tryz.isAgg71
 z22:=Tryz.sizeOf71
 v22:=Tryz.zeroValue71
 i3:=by kernel_rfl}
open Go.RowKit Go.Lib Go.Sort in
def Tryz.slices_Compact_int_empty (a:Option Addr)(cap:Nat)(w:World):
 Calls Tryz.prog 64 #[.slice a 0 cap] w λe w'=>e=.returned (.slice a 0 cap)/\w'=w:=Any.slices_Compact_int_empty Tryz.laysNm220 a cap w
open Go.RowKit Go.Sort in
def Tryz.slices_Sort_int_none (p:Option Addr)(cap:Nat)(w:World):
 Calls Tryz.prog 63 #[.slice p 0 cap] w λe w'=>e=.returned (.tuple #[])/\w'=w:=Any.slices_Sort_int_none Tryz.lays189 p cap w
open Go.RowKit Go.Lib Go.Sort in
def Tryz.slices_Compact_int (iS off cap:Nat)(zs:List Int)(w:World)(hH:Holds (Value.int .i64) w iS off zs.toArray)(aJ:zs.length<=9223372036854775807)(eP:zs.length<=cap):
 Calls Tryz.prog 64 #[.slice (some ⟨iS,off,none⟩) zs.length cap] w λe w'=>e=.returned (.slice (some ⟨iS,off,none⟩) (Lib.compact zs).length cap)/\∃q,w'=putRow (Value.int .i64) (Sort.ahead w q) iS off (Lib.compact zs++List.replicate (zs.length-(Lib.compact zs).length) 0).toArray:=Any.slices_Compact_int Tryz.laysNm220 iS off cap zs w hH aJ eP
def Tryz.laysSlF6_f61_ren:Go.Shelf.Ren:=⟨λ|6=>61|15=>59|14=>105|28=>103|29=>104|20=>139|21=>140|22=>141|23=>142|24=>143|25=>144|26=>145|27=>146|46=>170|47=>135|48=>136|49=>171|50=>172|57=>191|n=>n,λ|22=>71|24=>3|25=>132|3=>3|39=>129|0=>0|53=>175|55=>148|4=>4|46=>168|45=>167|50=>172|5=>5|9=>9|66=>203|70=>207|76=>233|77=>136|n=>n,λ|n=>n⟩
def Tryz.laysSlF6_f61:Go.Proofs.SlLaysF.n6 Tryz.prog Tryz.laysSlF6_f61_ren:={
 mixed:=by kernel_rfl
 f6:=⟨Tryz.f61.name,by decide,Tryz.func61.trans (congrArg some (by kernel_rfl))⟩
 f14:=⟨Tryz.f105.name,by decide,Tryz.func105.trans (congrArg some (by kernel_rfl))⟩
 f15:=Tryz.func59.trans (congrArg some (by kernel_rfl))
 f20:=⟨Tryz.f139.name,by decide,Tryz.func139.trans (congrArg some (by kernel_rfl))⟩
 f21:=⟨Tryz.f140.name,by decide,Tryz.func140.trans (congrArg some (by kernel_rfl))⟩
 f22:=⟨Tryz.f141.name,by decide,Tryz.func141.trans (congrArg some (by kernel_rfl))⟩
 f23:=⟨Tryz.f142.name,by decide,Tryz.func142.trans (congrArg some (by kernel_rfl))⟩
 f24:=⟨Tryz.f143.name,by decide,Tryz.func143.trans (congrArg some (by kernel_rfl))⟩
 f25:=⟨Tryz.f144.name,by decide,Tryz.func144.trans (congrArg some (by kernel_rfl))⟩
 f26:=⟨Tryz.f145.name,by decide,Tryz.func145.trans (congrArg some (by kernel_rfl))⟩
 f27:=⟨Tryz.f146.name,by decide,Tryz.func146.trans (congrArg some (by kernel_rfl))⟩
 f28:=Tryz.func103.trans (congrArg some (by kernel_rfl))
 f29:=Tryz.func104.trans (congrArg some (by kernel_rfl))
 f46:=⟨Tryz.f170.name,by decide,Tryz.func170.trans (congrArg some (by kernel_rfl))⟩
 f47:=Tryz.func135.trans (congrArg some (by kernel_rfl))
 f48:=Tryz.func136.trans (congrArg some (by kernel_rfl))
 f49:=⟨Tryz.f171.name,by decide,Tryz.func171.trans (congrArg some (by kernel_rfl))⟩
 f50:=⟨Tryz.f172.name,by decide,Tryz.func172.trans (congrArg some (by kernel_rfl))⟩
 f57:=⟨Tryz.f191.name,by decide,Tryz.func191.trans (congrArg some (by kernel_rfl))⟩
 t0:=Tryz.underlying0
 a0:=Tryz.isAgg0
 z0:=Tryz.sizeOf0
 v0:=Tryz.zeroValue0
 t3:=Tryz.underlying3
 a3:=Tryz.isAgg3
 z3:=Tryz.sizeOf3
 v3:=Tryz.zeroValue3
 t4:=Tryz.underlying4
 a4:=Tryz.isAgg4
 z4:=Tryz.sizeOf4
 v4:=Tryz.zeroValue4
 t5:=Tryz.underlying5
 a5:=Tryz.isAgg5
 z5:=Tryz.sizeOf5
 v5:=Tryz.zeroValue5
 t9:=Tryz.underlying9
 a9:=Tryz.isAgg9
 z9:=Tryz.sizeOf9
 v9:=Tryz.zeroValue9
 t22:=Tryz.underlying71
 a22:=Tryz.isAgg71
 z22:=Tryz.sizeOf71
 v22:=Tryz.zeroValue71
 a24:=Tryz.isAgg3
 z24:=Tryz.sizeOf3
 t25:=Tryz.underlying132
 a25:=Tryz.isAgg132
 z25:=Tryz.sizeOf132
 v25:=Tryz.zeroValue132
 t39:=Tryz.underlying129
 a39:=Tryz.isAgg129
 z39:=Tryz.sizeOf129
 v39:=Tryz.zeroValue129
 t45:=Tryz.underlying167
 a45:=Tryz.isAgg167
 z45:=Tryz.sizeOf167
 v45:=Tryz.zeroValue167
 t46:=Tryz.underlying168
 a46:=Tryz.isAgg168
 z46:=Tryz.sizeOf168
 v46:=Tryz.zeroValue168
 t50:=Tryz.underlying172
 a50:=Tryz.isAgg172
 z50:=Tryz.sizeOf172
 v50:=Tryz.zeroValue172
 t53:=Tryz.underlying175
 a53:=Tryz.isAgg175
 z53:=Tryz.sizeOf175
 v53:=Tryz.zeroValue175
 t55:=Tryz.underlying148
 a55:=Tryz.isAgg148
 z55:=Tryz.sizeOf148
 v55:=Tryz.zeroValue148
 t66:=Tryz.underlying203
 a66:=Tryz.isAgg203
 z66:=Tryz.sizeOf203
 v66:=Tryz.zeroValue203
 t70:=Tryz.underlying207
 a70:=Tryz.isAgg207
 z70:=Tryz.sizeOf207
 v70:=Tryz.zeroValue207
 t76:=Tryz.underlying233
 a76:=Tryz.isAgg233
 z76:=Tryz.sizeOf233
 v76:=Tryz.zeroValue233
 t77:=Tryz.underlying136
 a77:=Tryz.isAgg136
 z77:=Tryz.sizeOf136
 v77:=Tryz.zeroValue136}
def Tryz.sortE_ren:Go.Shelf.Ren:=⟨λ|6=>28|15=>59|14=>58|28=>103|29=>104|20=>95|21=>96|22=>97|23=>98|24=>99|25=>100|26=>101|27=>102|46=>134|47=>135|48=>136|49=>137|50=>138|57=>169|n=>n,λ|22=>59|24=>63|25=>85|3=>3|39=>129|0=>0|53=>175|55=>148|4=>4|46=>168|45=>167|50=>172|5=>5|9=>9|66=>203|70=>207|76=>233|77=>136|n=>n,λ|n=>n⟩
def Tryz.sortE:Go.Proofs.SlLaysF0.n6 Tryz.prog Tryz.sortE_ren:={
 mixed:=by kernel_rfl
 f6:=⟨Tryz.f28.name,by decide,Tryz.func28.trans (congrArg some (by kernel_rfl))⟩
 f14:=⟨Tryz.f58.name,by decide,Tryz.func58.trans (congrArg some (by kernel_rfl))⟩
 f15:=Tryz.func59.trans (congrArg some (by kernel_rfl))
 f20:=⟨Tryz.f95.name,by decide,Tryz.func95.trans (congrArg some (by kernel_rfl))⟩
 f21:=⟨Tryz.f96.name,by decide,Tryz.func96.trans (congrArg some (by kernel_rfl))⟩
 f22:=⟨Tryz.f97.name,by decide,Tryz.func97.trans (congrArg some (by kernel_rfl))⟩
 f23:=⟨Tryz.f98.name,by decide,Tryz.func98.trans (congrArg some (by kernel_rfl))⟩
 f24:=⟨Tryz.f99.name,by decide,Tryz.func99.trans (congrArg some (by kernel_rfl))⟩
 f25:=⟨Tryz.f100.name,by decide,Tryz.func100.trans (congrArg some (by kernel_rfl))⟩
 f26:=⟨Tryz.f101.name,by decide,Tryz.func101.trans (congrArg some (by kernel_rfl))⟩
 f27:=⟨Tryz.f102.name,by decide,Tryz.func102.trans (congrArg some (by kernel_rfl))⟩
 f28:=Tryz.func103.trans (congrArg some (by kernel_rfl))
 f29:=Tryz.func104.trans (congrArg some (by kernel_rfl))
 f46:=⟨Tryz.f134.name,by decide,Tryz.func134.trans (congrArg some (by kernel_rfl))⟩
 f47:=Tryz.func135.trans (congrArg some (by kernel_rfl))
 f48:=Tryz.func136.trans (congrArg some (by kernel_rfl))
 f49:=⟨Tryz.f137.name,by decide,Tryz.func137.trans (congrArg some (by kernel_rfl))⟩
 f50:=⟨Tryz.f138.name,by decide,Tryz.func138.trans (congrArg some (by kernel_rfl))⟩
 f57:=⟨Tryz.f169.name,by decide,Tryz.func169.trans (congrArg some (by kernel_rfl))⟩
 t0:=Tryz.underlying0
 a0:=Tryz.isAgg0
 z0:=Tryz.sizeOf0
 v0:=Tryz.zeroValue0
 t3:=Tryz.underlying3
 a3:=Tryz.isAgg3
 z3:=Tryz.sizeOf3
 v3:=Tryz.zeroValue3
 t4:=Tryz.underlying4
 a4:=Tryz.isAgg4
 z4:=Tryz.sizeOf4
 v4:=Tryz.zeroValue4
 t5:=Tryz.underlying5
 a5:=Tryz.isAgg5
 z5:=Tryz.sizeOf5
 v5:=Tryz.zeroValue5
 t9:=Tryz.underlying9
 a9:=Tryz.isAgg9
 z9:=Tryz.sizeOf9
 v9:=Tryz.zeroValue9
 t22:=Tryz.underlying59
 a22:=Tryz.isAgg59
 z22:=Tryz.sizeOf59
 v22:=Tryz.zeroValue59
 t25:=Tryz.underlying85
 a25:=Tryz.isAgg85
 z25:=Tryz.sizeOf85
 v25:=Tryz.zeroValue85
 t39:=Tryz.underlying129
 a39:=Tryz.isAgg129
 z39:=Tryz.sizeOf129
 v39:=Tryz.zeroValue129
 t45:=Tryz.underlying167
 a45:=Tryz.isAgg167
 z45:=Tryz.sizeOf167
 v45:=Tryz.zeroValue167
 t46:=Tryz.underlying168
 a46:=Tryz.isAgg168
 z46:=Tryz.sizeOf168
 v46:=Tryz.zeroValue168
 t50:=Tryz.underlying172
 a50:=Tryz.isAgg172
 z50:=Tryz.sizeOf172
 v50:=Tryz.zeroValue172
 t53:=Tryz.underlying175
 a53:=Tryz.isAgg175
 z53:=Tryz.sizeOf175
 v53:=Tryz.zeroValue175
 t55:=Tryz.underlying148
 a55:=Tryz.isAgg148
 z55:=Tryz.sizeOf148
 v55:=Tryz.zeroValue148
 t66:=Tryz.underlying203
 a66:=Tryz.isAgg203
 z66:=Tryz.sizeOf203
 v66:=Tryz.zeroValue203
 t70:=Tryz.underlying207
 a70:=Tryz.isAgg207
 z70:=Tryz.sizeOf207
 v70:=Tryz.zeroValue207
 t76:=Tryz.underlying233
 a76:=Tryz.isAgg233
 z76:=Tryz.sizeOf233
 v76:=Tryz.zeroValue233
 t77:=Tryz.underlying136
 a77:=Tryz.isAgg136
 z77:=Tryz.sizeOf136
 v77:=Tryz.zeroValue136}
def Tryz.ixE_ren:Go.Shelf.Ren:=⟨λ|6=>94|n=>n,λ|22=>59|23=>63|25=>61|3=>3|0=>0|4=>4|n=>n,λ|n=>n⟩
def Tryz.ixE:Go.Proofs.SlLaysH0.n6 Tryz.prog Tryz.ixE_ren:={
 mixed:=by kernel_rfl
 f6:=⟨Tryz.f94.name,by decide,Tryz.func94.trans (congrArg some (by kernel_rfl))⟩
 t0:=Tryz.underlying0
 a0:=Tryz.isAgg0
 z0:=Tryz.sizeOf0
 v0:=Tryz.zeroValue0
 t3:=Tryz.underlying3
 a3:=Tryz.isAgg3
 z3:=Tryz.sizeOf3
 v3:=Tryz.zeroValue3
 t4:=Tryz.underlying4
 a4:=Tryz.isAgg4
 z4:=Tryz.sizeOf4
 v4:=Tryz.zeroValue4
 t22:=Tryz.underlying59
 a22:=Tryz.isAgg59
 z22:=Tryz.sizeOf59
 v22:=Tryz.zeroValue59
 t25:=Tryz.underlying61
 a25:=Tryz.isAgg61
 z25:=Tryz.sizeOf61
 v25:=Tryz.zeroValue61}
end Go.Proofs
namespace Rm
open Go Go.Proofs Cx Go.RowKit Go.Sort
def gK (d:D):Int:=(d.c 5).i
def CB (d:D):Bool:=decide (0<=gK d)&&decide (gK d<=1099511627776)
def Oi (ds:List D):Option D:=
 match ds with
 |[_,.clo f [],.list xs]=>if f=29/\xs.length<=4294967296/\xs.all CB=true then some (.tup [.tup [],.list (gJ gK xs)]) else none
 |_=>none
set_option maxHeartbeats 1000000 in
def aAA (a0 a1 a2 a3 a4 a5 b0 b1 b2 b3 b4 b5:Int)(a6 b6:Bool)(hs:IntKind.i64.wrap (a5-b5)=a5-b5)(W:World):
 Calls Tryz.prog 29 #[.agg #[.int .i64 a0,.int .i64 a1,.int .i64 a2,.int .i64 a3,.int .i64 a4,.int .i64 a5,.bool a6],.agg #[.int .i64 b0,.int .i64 b1,.int .i64 b2,.int .i64 b3,.int .i64 b4,.int .i64 b5,.bool b6]] W λe w'=>e=.returned (.int .i64 (a5-b5))/\∃q ng,w'=grow (W.drewN q) ng:=by
 go_enter Tryz.func29,Tryz.ntmps29
 go_wp2
 go_ret
 exact⟨rfl,0,_,by rw[alloc_eq_grow,alloc_eq_grow,grow_grow];rfl⟩
def alR {xs:List D}{n:Nat}(aK:xs.all CB=true)(hn:xs.length=n+1)(iS off size:Nat)(w:World):
 CmpLays Tryz.prog 29 #[] (λi:Fin (n+1)=>bT (xs.getD i .none)) 7 (λi j=>gK (xs.getD i .none)-gK (xs.getD j .none)) iS off size w:=by
 intro m os dk hs x y
 have hr:∀i:Fin (n+1),0<=gK (xs.getD i .none)/\gK (xs.getD i .none)<=1099511627776:=λi=>by
  have hi:(i:Nat)<xs.length:=by rw[hn];exact i.2
  have:=cN.1 aK _ (bS hi);rw[aE,aW hi];simpa [CB] using this
 have h1:=hr x;have h2:=hr y;exact aAA _ _ _ _ _ _ _ _ _ _ _ _ _ _ (aO (by unfold gK at*;omega)) _
def axf (ds:List D)(d:D)(h:Oi ds=some d):ej ctx 28 [.obj 0 0,.dat (.fn [tE,tE] tI)] [(0,.row 63 tE)] (.tup []) ds d:=by
 refine ej.of (by simp) ?_;unfold Oi at h;split at h
 case h_2=>cases h
 rename_i d0 f xs;split at h
 case isFalse=>cases h
 rename_i hc;obtain⟨rfl,hlen,aK⟩:=hc;cases h;intro N V own hv w args cx FZ ar hC bo hN aJ bu dP h1 h2;obtain⟨v,u,rfl⟩:∃v u,args=#[v,u]:=by
  match args,aJ with
  |⟨[v,u]⟩,_=>exact⟨v,u,rfl⟩
 have eC:v=hv 0:=(h1 0).2 rfl;have hu:Rep ctx.cap V (.fn [tE,tE] tI) u (.clo 29 []):=h1 1;obtain rfl:u=.func (.func 29) #[] #[]:=by
  obtain⟨vs,cs,rfl,_,k1,k2,_⟩:=QG hu;have:vs=[]:=vl.1 (by rw[k1,<-k2];rfl);rw[this]
 obtain⟨cells,fl,hx,cW,dt,iW⟩:=h2 0;have hx:D.list xs=D.list fl:=hx;cases hx;obtain⟨aY,hE⟩:=abS cW.1 dt;by_cases h0:xs=[]
 .subst h0;obtain⟨p,cap,e1⟩:∃p cap,hv 0=.slice p 0 cap:=by
   rcases cW.2 with⟨e,_⟩|⟨g,cap,cur,e,_⟩
   .exact⟨_,_,e⟩
   .exact⟨_,_,e⟩
  rw[eC,e1];refine(AnyF.slices_SortFunc_none Tryz.sortE p cap _ w).mono λe w' hh=>?_;obtain⟨rfl,rfl⟩:=hh
  refine⟨.tuple #[],V,own,hv,.tup [],[.list []],rfl,rfl,rfl,.refl V,ar,.refl _ _,λk hk _=>rfl,
   λk o x hx=>⟨.inl hx,λhc=>by rw[(dP k hc).2.2.1 o] at hx;cases hx⟩,λk x hx=>⟨.inl hx,λhc=>by rw[(dP k hc).2.2.2] at hx;cases hx⟩,λk hx=>absurd hx (bo k),
   λk j hk=>by obtain⟨g1,g2,g3,g4⟩:=bu k j hk;exact⟨g1,g2,g3,g4,λ_ hn=>by rw[hk] at hn;cases hn⟩,λt sh hs hd=>?_,λj=>?_,.tup [] [] [] rfl rfl (λi t hi=>by simp at hi)⟩
  .match t,hs with
   |0,hs=>simp at hs;subst hs;exact⟨aX _,λ_=>by simp[e1]⟩
   |1,hs=>simp at hs;subst hs;cases hd
   |t+2,hs=>simp at hs
  .exact h2 j
 obtain⟨n,hn⟩:∃n,xs.length=n+1:=⟨xs.length-1,by have:=Ai.2 h0;omega⟩
 rcases cW.2 with⟨_,h0⟩|⟨g,cap,cur,e1,e2,e3,e4,e5,e6,e7⟩
 .omega
 have hg:g<w.heap.size:=(ei.1 e3).1;have ox:own g=some 0:=iW g (by rw[e1];rfl);have R3:∀i:Fin (n+1),(bT (xs.getD i .none)).length=7:=λ_=>rfl
 have hH:HoldsK (λi:Fin (n+1)=>bT (xs.getD i .none)) 7 w g 0 (Array.ofFn id):=by
  refine Sy e3 ?_;rw[BJ R3,size_flatK,aaa,show(n+1)*7=xs.length*tE.size by rw[hn];rfl,e7,aY];have:=afJ hn
  conv=>lhs;rw[<-this]
  rw[List.flatMap_map]
 have cY:=AnyQ.slices_SortFunc_eq Tryz.sortE 7 Tryz.isAgg63 Tryz.sizeOf63 (λi:Fin (n+1)=>bT (xs.getD i .none)) R3
  (λi v hv=>anj [xs.getD i .none] v (by simpa using hv)) (λi j=>gK (xs.getD i .none)-gK (xs.getD j .none)) (WZ gK xs (n+1)) 29 #[] g 0 cap (Array.ofFn id) w
  (enters_of Tryz.func29 (by kernel_rfl) rfl) (alR aK hn _ _ _ w) hH hg (by simp;omega)
 change Calls Tryz.prog 28 _ _ _ at cY;simp only[aaa] at cY;have mL:hv 0=.slice (some ⟨g,0,none⟩) (n+1) cap:=by rw[e1,hn]
 rw[eC,mL];refine cY.mono λe w' hh=>?_;obtain⟨rfl,m,os,rfl⟩:=hh;have vU:=Ol gK xs n;have oF:(gJ gK xs).length=xs.length:=(se gK xs).length_eq;refine WE (C:=ctx) (k:=7) (rest:=[.dat (.fn [tE,tE] tI)]) (enc:=id) (F:=flatK (λi:Fin (n+1)=>bT (xs.getD i .none)) 7 (oS gK xs n)) rfl ar bo bu dP mL e2 e3 (by rw[<-hn];exact e4) e5 e6 ox (by rw[oF,hn]) (by rw[size_flatK,vU]) ?_ (by simp[mL]) rfl;rw[xy,BJ R3]
 have e:(oS gK xs n).toList.flatMap (λi:Fin (n+1)=>bT (xs.getD i .none))=(gJ gK xs).flatMap bT:=by
  rw[aji hn,List.flatMap_map]
 rw[e];exact abT λx hx=>hE x ((se gK xs).mem_iff.1 hx)
end Rm
namespace Rm
open Go Cx
def y1 (x:Int):List Int->List Int
 |[]=>[x]
 |y::l=>if x<=y then x::y::l else y::y1 x l
def lG:List Int->List Int
 |[]=>[]
 |x::l=>y1 x (lG l)
def Tg (x:Int):∀l,(y1 x l).Perm (x::l)
 |[]=>.refl _
 |y::l=>by
  unfold y1;split
  .exact .refl _
  .exact((Tg x l).cons y).trans (.swap x y l)
def Gm:∀l,(lG l).Perm l
 |[]=>.refl _
 |x::l=>(Tg x _).trans ((Gm l).cons x)
def aek (x:Int):∀{l:List Int},l.Pairwise (·<=·)->(y1 x l).Pairwise (·<=·)
 |[],_=>by simp[y1]
 |y::l,h=>by
  have h':=xC.1 h;unfold y1;split
  .rename_i Tc;refine xC.2 ⟨λz hz=>?_,h⟩;rcases cA.1 hz with rfl|hz
   .exact Tc
   .exact O3 Tc (h'.1 z hz)
  .rename_i Tc;refine xC.2 ⟨λz hz=>?_,aek x h'.2⟩;rcases cA.1 ((Tg x l).mem_iff.1 hz) with rfl|hz
   .omega
   .exact h'.1 z hz
def L2:∀l,(lG l).Pairwise (·<=·)
 |[]=>.nil
 |x::l=>aek x (L2 l)
def ash (l:List Int):(l.mergeSort λx y=>decide (x<=y))=lG l:=by
 have h1:(l.mergeSort λx y=>decide (x<=y)).Pairwise (λx y=>decide (x<=y)=true):=List.pairwise_mergeSort (λa b c h1 h2=>by simp at*;omega) (λa b=>by simp;omega) l;refine List.Perm.eq_of_pairwise (le:=(·<=·)) (λa b _ _ h1 h2=>by omega) (h1.imp λh=>by simpa using h) (L2 l) ((List.mergeSort_perm l _).trans (Gm l).symm)
def L1 (l:List Int):(lG l).length=l.length:=(Gm l).length_eq
def asi {l:List Int}{x:Int}:x∈lG l↔x∈l:=(Gm l).mem_iff
def qQ (l:List Int)(k:Nat):List Int:=((List.range k).filter λj=>decide (j=0\/l.getD j 0≠l.getD (j-1) 0)).map λj=>l.getD j 0
def kf (l:List Int):List Int:=qQ l l.length
def amk (l:List Int)(k:Nat):qQ l (k+1)=qQ l k++if k=0\/l.getD k 0≠l.getD (k-1) 0 then[l.getD k 0] else[]:=by
 unfold qQ;rw[Pf,IN,pf]
 congr 1
 have key:∀(p:Nat->Bool),List.filter p [k]=if p k then[k] else[]:=λp=>by
  cases h:p k<;>simp[List.filter,h]
 rw[key];by_cases h:k=0\/l.getD k 0≠l.getD (k-1) 0
 .rw[if_pos h,if_pos (decide_eq_true h)];rfl
 .rw[if_neg h,if_neg (by simpa using h)];rfl
def QO (l:List Int)(hs:l.Pairwise (·<=·)):∀k,k<=l.length->(∀x,x∈qQ l k↔∃j,j<k/\l.getD j 0=x)/\(qQ l k).Pairwise (·<·)
 |0,_=>by simp[qQ]
 |k+1,hk=>by
  obtain⟨h1,h2⟩:=QO l hs k (by omega)
  have hle:∀i j,i<=j->j<l.length->l.getD i 0<=l.getD j 0:=λi j dG hj=>by
   have hi:i<l.length:=by omega
   rw[aE,aE,aW hi,aW hj];by_cases e:i=j
   .subst e;exact vi _
   .exact Pc.1 hs i j hi hj (by omega)
  rw[amk];by_cases hc:k=0\/l.getD k 0≠l.getD (k-1) 0
  .rw[if_pos hc];refine⟨λx=>?_,aav.2 ⟨h2,by simp,λa ha b hb=>?_⟩⟩
   .rw[dM,h1,Ak];constructor
    .rintro(⟨j,hj,e⟩|e)
     .exact⟨j,by omega,e⟩
     .exact⟨k,by omega,e.symm⟩
    .rintro⟨j,hj,e⟩;by_cases mP:j=k
     .subst mP;exact .inr e.symm
     .exact .inl ⟨j,by omega,e⟩
   .rw[Ak] at hb;subst hb;obtain⟨j,hj,rfl⟩:=(h1 a).1 ha;have a1:=hle j (k-1) (by omega) (by omega);have a2:=hle (k-1) k (by omega) (by omega);rcases hc with hc|hc<;>omega
  .rw[if_neg hc,tU];refine⟨λx=>?_,h2⟩;rw[h1];constructor
   .rintro⟨j,hj,e⟩;exact⟨j,by omega,e⟩
   .rintro⟨j,hj,e⟩;by_cases mP:j=k
    .subst mP;exact⟨j-1,by omega,by rw[<-e];omega⟩
    .exact⟨j,by omega,e⟩
def aml {l:List Int}(hs:l.Pairwise (·<=·)){x:Int}:x∈kf l↔x∈l:=by
 rw[kf,(QO l hs l.length (aX _)).1,List.mem_iff_getElem];constructor
 .rintro⟨j,hj,e⟩;exact⟨j,hj,by rw[<-e,aE,aW hj];rfl⟩
 .rintro⟨j,hj,e⟩;exact⟨j,hj,by rw[<-e,aE,aW hj];rfl⟩
def amm {l:List Int}(hs:l.Pairwise (·<=·)):(kf l).Pairwise (·<·):=(QO l hs l.length (aX _)).2
def abB (l:List Int)(k:Nat):(qQ l k).length<=k:=by
 unfold qQ;rw[dY];exact gl (oZ _ _) (by simp)
end Rm
namespace Rm
open Go Go.Proofs Cx Go.RowKit
def ajk (ds:List D):Option D:=
 match ds with
 |[_,.list xs]=>if 0<xs.length/\xs.length<=4294967296 then some (.tup [.tup [],ints (lG (xs.map D.i))]) else none
 |_=>none
def Ip (ds:List D):Option D:=
 match ds with
 |[_,.list xs]=>if xs.length<=4294967296 then some (.tup [.tup [],ints (lG (xs.map D.i))]) else none
 |_=>none
def Th {cap:Nat->Option CSig}{V:Im}{cells:List Value}{xs:List D}(hl:cells.length=xs.length*1)(h:dy cap V (.int .i64) cells xs):cells=(xs.map D.i).map (Value.int .i64)/\∀x,x∈xs.map D.i->(IntKind.i64).min<=x/\x<=(IntKind.i64).max:=by
 obtain⟨vs,bJ,RN⟩:=h
 have B5:∀i (hi:i<xs.length),∃n,xs[i]=.int n/\vs i=.int .i64 n/\(IntKind.i64).min<=n/\n<=(IntKind.i64).max:=λi hi=>by
  obtain⟨n,e1,e2,e3,e4⟩:=(bJ i _ (aW hi)).int_inv;exact⟨n,e2,e1,e3,e4⟩
 constructor
 .apply vj;intro i;by_cases hi:i<xs.length
  .obtain⟨n,e1,e2,_⟩:=B5 i hi;have:=RN i 0 (.int .i64 n) hi (by rw[e2];rfl);have e3:i*(Ty.int .i64).size+0=i:=by simp[Ty.size]
   rw[e3] at this;rw[this,cj,cj,aW hi,e1];rfl
  .rw[j5 (by omega),j5 (by simp;omega)]
 .intro x hx;obtain⟨y,hy,rfl⟩:=cr.1 hx;obtain⟨q,hq,rfl⟩:=fm hy;obtain⟨n,f1,f2,f3,f4⟩:=B5 q hq;rw[f1];exact⟨f3,f4⟩
def L3 {cap:Nat->Option CSig}{V:Im}{l:List Int}(h:∀x,x∈l->(IntKind.i64).min<=x/\x<=(IntKind.i64).max):dy cap V (.int .i64) (l.map (Value.int .i64)) (l.map D.int):=by
 refine⟨λi=>.int .i64 (l.getD i 0),λi x hx=>?_,λi j u hi hj=>?_⟩
 .rw[cj,aB] at hx;obtain⟨m,hm,rfl⟩:=hx;have e9:l.getD i 0=m:=by rw[aE,hm];rfl
  show Rep cap V (.int .i64) (.int .i64 (l.getD i 0)) _;rw[e9];have:=h m (j6 hm);exact .int .i64 m this.1 this.2
 .have hj0:j=0:=by
   have:=(ei.1 hj).1;simp[Value.cells] at this;omega
  subst hj0;simp[Value.cells] at hj;subst hj;have dc:i<l.length:=by simpa using hi
  simp[Ty.size,aW dc,aE]
def axl (ds:List D)(d:D)(h:ajk ds=some d):tT ctx 63 [.obj 0 0] [(0,.row 3 (.int .i64))] (.tup []) ds d:=by
 unfold ajk at h;split at h
 case h_2=>cases h
 rename_i d0 xs;split at h
 case isFalse=>cases h
 rename_i hlen;cases h;intro N V own hv w args cx FZ ar hC bo hN aJ bu dP h1 h2;obtain⟨v,rfl⟩:∃v,args=#[v]:=by
  match args,aJ with
  |⟨[v]⟩,_=>exact⟨v,rfl⟩
 have eC:v=hv 0:=(h1 0).2 rfl;obtain⟨cells,fl,hx,cW,dt,iW⟩:=h2 0;have hx:D.list xs=D.list fl:=hx;cases hx;obtain⟨aY,bn⟩:=Th cW.1 dt;rcases cW.2 with⟨_,h0⟩|⟨g,cap,cur,e1,e2,e3,e4,e5,e6,e7⟩
 .omega
 have cH:(Ty.int .i64).size=1:=rfl;rw[cH] at e6 e7;have hg:g<w.heap.size:=(ei.1 e3).1;have ox:own g=some 0:=iW g (by rw[e1];rfl);have kT:(xs.map D.i).length=xs.length:=by simp
 have hH:Go.Sort.Holds (Value.int .i64) w g 0 (xs.map D.i).toArray:=holds_of_blockI e3 (by rw[kT,<-aY,<-e7];simp);have cY:=Tryz.slices_Sort_int g 0 cap (xs.map D.i) w hH hg (by omega);rw[eC,e1];rw[kT] at cY;refine cY.mono λe w' hh=>?_;obtain⟨rfl,n,os,rfl⟩:=hh;rw[ash];refine WE (C:=ctx) (k:=1) (rest:=[]) (enc:=Value.int .i64) (F:=(lG (xs.map D.i)).toArray) rfl ar bo bu dP e1 e2 e3 e4 e5 e6 ox (by rw[dY,L1,kT]) (by simp[L1]) ?_ (by simp[e1]) rfl;exact L3 λx hx=>bn x ((Gm _).mem_iff.1 hx)
def axk (ds:List D)(d:D)(h:Ip ds=some d):ej ctx 63 [.obj 0 0] [(0,.row 3 (.int .i64))] (.tup []) ds d:=by
 refine ej.of (by simp) ?_;by_cases h0:∃d0,ds=[d0,.list []]
 case neg=>
  refine axl ds d ?_;unfold Ip at h;split at h
  case h_2=>cases h
  rename_i d0 xs;split at h
  case isFalse=>cases h
  rename_i hlen;have F0:0<xs.length:=by
   cases xs with
   |nil=>exact absurd ⟨_,rfl⟩ h0
   |cons x xs=>simp
  show(if 0<xs.length/\xs.length<=4294967296 then some (D.tup [.tup [],ints (lG (xs.map D.i))]) else none)=some d;rw[if_pos ⟨F0,hlen⟩];exact h
 obtain⟨d0,rfl⟩:=h0;obtain rfl:D.tup [.tup [],.list []]=d:=by simpa [Ip,lG,ints] using h
 intro N V own hv w args cx FZ ar hC bo hN aJ bu dP h1 h2;obtain⟨v,rfl⟩:∃v,args=#[v]:=by
  match args,aJ with
  |⟨[v]⟩,_=>exact⟨v,rfl⟩
 have eC:v=hv 0:=(h1 0).2 rfl;obtain⟨cells,fl,hx,cW,dt,iW⟩:=h2 0;have hx:D.list []=D.list fl:=hx;cases hx;obtain⟨p,cap,e1⟩:∃p cap,hv 0=.slice p 0 cap:=by
  rcases cW.2 with⟨e,_⟩|⟨g,cap,cur,e,_⟩
  .exact⟨_,_,e⟩
  .exact⟨_,_,e⟩
 rw[eC,e1];refine(Tryz.slices_Sort_int_none p cap w).mono λe w' hh=>?_;obtain⟨rfl,rfl⟩:=hh
 refine⟨.tuple #[],V,own,hv,.tup [],[.list []],rfl,rfl,rfl,.refl V,ar,.refl _ _,λk hk _=>rfl,
  λk o x hx=>⟨.inl hx,λhc=>by rw[(dP k hc).2.2.1 o] at hx;cases hx⟩,λk x hx=>⟨.inl hx,λhc=>by rw[(dP k hc).2.2.2] at hx;cases hx⟩,λk hx=>absurd hx (bo k),
  λk j hk=>by obtain⟨g1,g2,g3,g4⟩:=bu k j hk;exact⟨g1,g2,g3,g4,λ_ hn=>by rw[hk] at hn;cases hn⟩,λt sh hs hd=>?_,λj=>?_,.tup [] [] [] rfl rfl (λi t hi=>by simp at hi)⟩
 .match t,hs with
  |0,hs=>simp at hs;subst hs;exact⟨aX _,λ_=>by simp[e1]⟩
  |t+1,hs=>simp at hs
 .exact h2 j
def KI (ds:List D):Option D:=
 match ds with
 |[.list xs]=>if xs.length<=4294967296 then some (ints (kf (xs.map D.i))) else none
 |_=>none
def al6 (l:List Int):Go.Lib.compact l=kf l:=by
 have e:∀j,l.toArray[j]! =l.getD j 0:=λj=>by simp[aE,getElem!_def];cases l[j]?<;>rfl
 unfold Go.Lib.compact Go.Lib.compactUpTo kf qQ Go.Lib.keeps;simp only[e]
def amn (l:List Int):∀x,x∈kf l->x∈l:=by
 intro x hx;unfold kf qQ at hx;obtain⟨j,hj,rfl⟩:=cr.1 hx;have af:j<l.length:=fP.1 (eH.1 hj).1;rw[aE,aW af];exact bS af
def al7 (ds:List D)(d:D)(h:KI ds=some d):ej ctx 64 [.obj 0 0] [(0,.row 3 (.int .i64)),(1,.tr)] (.slice (.int .i64)) ds d:=by
 unfold KI at h;split at h
 case h_2=>cases h
 rename_i dX;split at h
 case isFalse=>cases h
 rename_i hlen;cases h;show xp ctx 64 3 (.int .i64) [] [.list dX] _;intro N V w v args xs cells ds' jN ar hC hN cW dt hblk ha;cases jN;obtain rfl:args=[]:=vl.1 ha.1;have mR:cells.length=dX.length*1:=cW.1;obtain⟨aY,bn⟩:=Th mR dt;have cH:(Ty.int .i64).size=1:=rfl;rcases cW.2 with⟨e1,h0⟩|⟨g,cap,cur,e1,e2,e3,e4,e5,e6,e7⟩
 .obtain rfl:dX=[]:=vl.1 h0;subst e1;refine(Tryz.slices_Compact_int_empty none 0 w).mono λx w' hh=>?_;obtain⟨rfl,rfl⟩:=hh;exact⟨_,[],[],rfl,rfl,.refl _ _,λ_ _ _=>rfl,World.ownsRow_nil _ _ _ _,⟨λ_=>undef,by simp,by simp⟩,λk hk=>by cases hk⟩
 rw[cH] at e6 e7;subst e1;have kT:(dX.map D.i).length=dX.length:=by simp
 have hg:g<w.heap.size:=(ei.1 e3).1;have hH:Go.Sort.Holds (Value.int .i64) w g 0 (dX.map D.i).toArray:=holds_of_blockI e3 (by rw[kT,<-aY,<-e7];simp);have cY:=Tryz.slices_Compact_int g 0 cap (dX.map D.i) w hH (by rw[kT];omega) (by rw[kT];exact e4);rw[kT,al6] at cY;refine cY.mono λx w' hh=>?_;obtain⟨rfl,n,rfl⟩:=hh;have Ft:(kf (dX.map D.i)).length<=dX.length:=gl (abB (dX.map D.i) (dX.map D.i).length) (by rw[kT];exact aX _);generalize Cf:kf (dX.map D.i)++List.replicate (dX.length-(kf (dX.map D.i)).length) 0=ts;have htl:ts.length=(dX.map D.i).length:=by rw[<-Cf];simp;omega
 have fA:=grownBy_sortedI (w:=w) (g:=g) (n:=n) (os:=#[]) ts.toArray;have Ca:=ownsRow_sortedI (w:=w) (base:=N) (n:=n) (os:=#[]) (ss:=dX.map D.i) (ts:=ts) htl e2 e3 (by rw[kT];exact e4) e5 (by omega);have gR:∀W:World,Go.Sort.grow W #[]=W:=λW=>by simp[Go.Sort.grow]
 rw[gR] at fA Ca;refine⟨_,(kf (dX.map D.i)).map D.int,(kf (dX.map D.i)).map (Value.int .i64),rfl,rfl,⟨fA.os,fA.tape,fA.output,fA.size,λk hk=>fA.block k (by omega) (λe=>by cases e;omega)⟩,λk hk au=>fA.block k hk (λe=>au (by cases e;rfl)),?_,L3 λx hx=>bn x (amn _ x hx),λk hk=>?_⟩
 .rw[cH];refine⟨by simp,?_⟩;rcases Ca.2 with⟨f1,_⟩|⟨g',alp,QL,f1,f2,f3,f4,f5,f6,f7⟩
  .cases f1
  .cases f1;refine .inr ⟨g,cap,QL,by simp,f2,f3,by simp;omega,f5,f6,?_⟩;have:=congrArg (List.take (kf (dX.map D.i)).length) f7;rw[Ph,kT,IV,mF Ft,<-Cf,pf,List.take_left' (by simp)] at this;rw[dY,IV];exact this
 .have bf:g=k:=by simpa [Value.ownBlock] using hk
  subst bf;exact⟨.inl (by simp[Value.ownBlock]),ln hg fA.size⟩
def KE (ds:List D):Option D:=
 match ds with
 |[.list xs]=>if xs.length<=4294967296 then some (.list xs) else none
 |_=>none
def alQ (ds:List D)(d:D)(h:KE ds=some d):∃s,ctx.sig 60=some s/\iN ctx 60 s ds d:=by
 refine⟨_,rfl,?_⟩;unfold KE at h;split at h
 case h_2=>cases h
 rename_i xs;split at h
 case isFalse=>cases h
 rename_i hlen;cases h;intro V w args ar hC ha;obtain⟨a1,a2,a3⟩:=ha;have acM:=a3 0 _ rfl;obtain⟨v,rfl⟩:∃v,args=#[v]:=by
  have:args.size=1:=by simpa using a1
  match args,this with
  |⟨[v]⟩,_=>exact⟨v,rfl⟩
 simp only[su] at acM;have fin:∀(v':Value) (w':World) (l:List Int),l.map D.int=xs->(∀x,x∈l->(IntKind.i64).min<=x/\x<=(IntKind.i64).max)->w'.ownsRow w.heap.size 3 1 v' l.length (l.map (Value.int .i64))->Below w.heap.size w w'->
  ∃v V',Ending.returned v'=Ending.returned v/\V.le V'/\V'.ok w'/\Below w.heap.size w w'/\(∀k o x,V'.c k o=some x->V.c k o=some x\/w.heap.size<=k)/\(∀k x,V'.m k=some x->V.m k=some x\/w.heap.size<=k)/\lU ctx ⟨[.slice (.int .i64)],.slice (.int .i64),.row 3 (.int .i64)⟩ V' w w' v (.list xs):=by
  intro v' w' l hl hb bu uB;subst hl;refine⟨v',V,rfl,.refl V,ar.below uB,uB,λ_ _ _ h=>.inl h,λ_ _ h=>.inl h,?_⟩;refine⟨_,l.map D.int,rfl,by rw[dY];exact bu,L3 hb,λk hk=>?_⟩;have bf:=(bu.lt k hk).1;refine⟨λo=>?_,?_⟩
  .cases hc:V.c k o with
   |none=>rfl
   |some u=>have:=World.block_lt_of_cell? w (a:=⟨k,o,none⟩) (ar.c _ _ _ hc);simp at this;omega
  .cases hc:V.m k with
   |none=>rfl
   |some u=>have:=(ar.m k u hc).lt;omega
 obtain⟨fl,hx,sP⟩:=Rep.slice_inv acM;cases hx;rcases sP with⟨⟨p,hv⟩,rfl⟩|⟨k,o,c,hv,h1,h2,vs,h3,h4⟩
 .have hv:v=.slice p 0 0:=hv;subst hv;cases p with
  |none=>
   refine(Tryz.slices_Clone_int_nil 0 0 w).mono λe w' hh=>?_;obtain⟨rfl,rfl⟩:=hh;exact fin _ _ [] rfl (by simp) (World.ownsRow_nil _ _ _ _) (.refl _ _)
  |some a=>
   refine(Tryz.slices_Clone_int_zero a 0 w).mono λe w' hh=>?_;obtain⟨v',rfl,bu,_,hb⟩:=hh;exact fin v' w' [] rfl (by simp) bu hb
 .have hv:v=.slice (some ⟨k,o,none⟩) xs.length c:=hv;subst hv
  have B5:∀i (hi:i<xs.length),∃n,xs[i]=.int n/\vs i=.int .i64 n/\(IntKind.i64).min<=n/\n<=(IntKind.i64).max:=λi hi=>by
   obtain⟨n,e1,e2,e3,e4⟩:=(h3 i _ (aW hi)).int_inv;exact⟨n,e2,e1,e3,e4⟩
  have Gf:(xs.map D.i).map D.int=xs:=by
   apply O7 (by simp);intro i uI yy;obtain⟨n,e1,_⟩:=B5 i yy;simp[e1]
  have kT:(xs.map D.i).length=xs.length:=by simp
  have aY:=Tryz.slices_Clone_int k o xs.length c (xs.map D.i) w (by simp) (by omega) (λj hj=>by
   have bB:j<xs.length:=by simpa using hj
   obtain⟨n,e1,e2,_⟩:=B5 j bB;have:=ar.c _ _ _ (h4 j 0 (.int .i64 n) bB (by rw[e2];rfl));have e3:(xs.map D.i).getD j 0=n:=by simp[aE,bB,e1]
   rw[e3];simpa [Ty.size] using this)
  refine aY.mono λe w' hh=>?_;obtain⟨v',rfl,bu,_,hb⟩:=hh;refine fin v' w' (xs.map D.i) Gf (λx hx=>?_) ?_ hb
  .obtain⟨y,hy,rfl⟩:=cr.1 hx;obtain⟨q,hq,rfl⟩:=fm hy;obtain⟨n,f1,f2,f3,f4⟩:=B5 q hq;rw[f1];exact⟨f3,f4⟩
  .rw[kT];rw[xD (by simp)] at bu;exact bu
end Rm
namespace Rm
open Go Go.Proofs Cx Go.RowKit Go.Sort
def dO (r d:D):Int:=(((r.c 2).l.getD d.i.toNat .none).c 0).i
def zh (r d:D):Bool:=(decide (0<=d.i)&&decide (d.i<(r.c 2).l.length))&&(decide (0<=dO r d)&&decide (dO r d<=9))
def Oj (ds:List D):Option D:=
 match ds with
 |[_,.clo f [.ref r],.list xs]=>if f=62/\xs.length<=4294967296/\xs.all (zh r)=true then some (.tup [.tup [],.list (gJ (dO r) xs)]) else none
 |_=>none
set_option maxHeartbeats 1000000 in
def alz (W:World)(b o k o' n c i j:Nat)(gi gj:Int)(hi:i<n)(hj:j<n)(hn:n<=9223372036854775807)(hs:IntKind.i64.wrap (gi-gj)=gi-gj)
 (h2:W.cell? ⟨b,o+2,none⟩=some (.slice (some ⟨k,o',none⟩) n c)) (hgi:W.cell? ⟨k,o'+i,none⟩=some (.int .i64 gi)) (yx:W.cell? ⟨k,o'+j,none⟩=some (.int .i64 gj)):
 Calls Tryz.prog 62 #[.int .i64 i,.int .i64 j,.pointer (some ⟨b,o,none⟩)] W λe w'=>e=.returned (.int .i64 (gi-gj))/\∃q ng,w'=grow (W.drewN q) ng:=by
 have dc:(i:Int)<(n:Int):=by omega
 have bB:(j:Int)<(n:Int):=by omega
 have mixed:Tryz.prog.follows .mixedOrders=true:=by kernel_rfl
 go_enter Tryz.func62,Tryz.ntmps62
 go_wp2
 go_region_o
 go_wp2
 go_ret
 exact⟨rfl,1,#[],by rw[grow_empty];rfl⟩
def alu {α:Type}[Inhabited α]{enc:α->Value}{w:World}{g m:Nat}{dk:Array α}{os:Array Obj}{a:Addr}(h1:a.block<w.heap.size)(h2:a.block≠g):(sortWorld enc w g 0 m dk os).cell? a=w.cell? a:=
 World.cell?_of_block ((Rr (enc:=enc) (w:=w) (g:=g) (n:=m) (os:=os) dk).block _ h1 (λe=>h2 (by cases e;rfl)))
def awu {cap:Nat->Option CSig}{V:Im}{u:Value}{r:D}(h:Rep cap V (.ref Y8) u (.ref r)):∃(b o k o' n c:Nat),u=.pointer (some ⟨b,o,none⟩)/\((r.c 2).l≠[]->V.c b (o+2)=some (.slice (some ⟨k,o',none⟩) n c)/\n=(r.c 2).l.length/\n<=9223372036854775807/\
 ∀i (hi:i<(r.c 2).l.length),V.c k (o'+i)=some (.int .i64 (((r.c 2).l[i]).c 0).i)):=by
 cases h with
 |ref t b o v d hv hc=>
  obtain⟨vs,ds,rfl,rfl,h1,h2,h3,_⟩:=hv.agg_inv;have h8:vs.length=8:=h1;have hr:=h3 2 _ rfl;have mO:V.c b (o+2)=some (vs.getD 2 undef):=hc 2 _ (by
   show vs.toArray[2]?=_;rw[xx,aE,aW (by omega)];rfl)
  have jN:(D.agg ds).c 2=ds.getD 2 .none:=rfl;rw[jN];generalize ds.getD 2 .none=x at*;generalize vs.getD 2 undef=y at*;obtain⟨xs,rfl,sP⟩:=hr.slice_inv;show ∃(b' o2 k o' n c:Nat),_/\(xs≠[]->_)
  rcases sP with⟨_,rfl⟩|⟨k,o',c,rfl,k1,k2,zV,k3,k4⟩
  .exact⟨b,o,0,0,0,0,rfl,λe=>absurd rfl e⟩
  .refine⟨b,o,k,o',xs.length,c,rfl,λ_=>⟨mO,rfl,by unfold maxLen at k2;omega,λi hi=>?_⟩⟩;obtain⟨ws,es,e1,e2,f1,f2,f3,_⟩:=(k3 i _ (aW hi)).agg_inv
   match ws,es,f1,f2 with
   |[w0],[e0],_,_=>
    obtain⟨m,g1,g2,_⟩:=(f3 0 _ rfl).int_inv;simp only[su] at g1 g2;subst g1 g2;have:=k4 i 0 (.int .i64 m) hi (by rw[e1];rfl);have dc:i<xs.length:=hi;have sF:xs[i]'dc=D.agg [D.v (Value.int IntKind.i64 m)]:=e2;show V.c k (o'+i)=some (.int .i64 ((xs[i]'dc).c 0).i);rw[sF];have e3:o'+i*Y1.size+0=o'+i:=by show o'+i*1+0=_;omega
    rw[e3] at this;exact this
def alS {xs:List D}{n:Nat}{r:D}(aK:xs.all (zh r)=true)(hn:xs.length=n+1){V:Im}{w:World}{g:Nat}(ar:V.ok w)(hg:∀o,V.c g o=none){u:Value}(hu:Rep ctx.cap V (.ref Y8) u (.ref r))(size:Nat):
 CmpLays1 Tryz.prog 62 #[u] (λi:Fin (n+1)=>Value.int .i64 (xs.getD i .none).i) (λi j=>dO r (xs.getD i .none)-dO r (xs.getD j .none)) g 0 size w:=by
 intro m os dk hs x y
 have hr:∀i:Fin (n+1),zh r (xs.getD i .none)=true:=λi=>by
  have hi:(i:Nat)<xs.length:=by rw[hn];exact i.2
  have:=cN.1 aK _ (bS hi);rw[aE,aW hi];exact this
 have h1:=hr x;have h2:=hr y;simp only[zh,ao,decide_eq_true_eq] at h1 h2;obtain⟨b,o,k,o',nn,c,rfl,hl⟩:=awu hu;have au:(r.c 2).l≠[]:=λe=>by rw[e] at h1;simp at h1;omega
 obtain⟨l1,l2,l3,l4⟩:=hl au;have hgn:∀kk oo v,V.c kk oo=some v->kk≠g:=λkk oo v e h=>by subst h;rw[hg oo] at e;cases e
 have look:∀kk oo v,V.c kk oo=some v->(sortWorld (λi:Fin (n+1)=>Value.int .i64 (xs.getD i .none).i) w g 0 m dk os).cell? ⟨kk,oo,none⟩=some v:=λkk oo v e=>by
  have hw:=ar.c _ _ _ e;rw[alu (World.block_lt_of_cell? w (a:=⟨kk,oo,none⟩) hw) (hgn _ _ _ e)];exact hw
 have rn:∀i:Fin (n+1),0<=(xs.getD i .none).i->(xs.getD i .none).i<((r.c 2).l.length:Int)->V.c k (o'+(xs.getD i .none).i.toNat)=some (.int .i64 (dO r (xs.getD i .none))):=λi a1 a2=>by
  have af:(xs.getD i .none).i.toNat<(r.c 2).l.length:=by omega
  rw[l4 _ af];unfold dO;rw[aE (l:=(r.c 2).l),aW af];rfl
 have e1:=rn x h1.1.1 h1.1.2;have e2:=rn y h2.1.1 h2.1.2;have c:=alz (sortWorld (λi:Fin (n+1)=>Value.int .i64 (xs.getD i .none).i) w g 0 m dk os) b o k o' nn c (xs.getD x .none).i.toNat (xs.getD y .none).i.toNat (dO r (xs.getD x .none)) (dO r (xs.getD y .none)) (by omega) (by omega) l3 (aO (by omega)) (look _ _ _ l1) (look _ _ _ e1) (look _ _ _ e2);rw[Int.toNat_of_nonneg h1.1.1,Int.toNat_of_nonneg h2.1.1] at c;exact c
def axh (ds:List D)(d:D)(h:Oj ds=some d):ej ctx 61 [.obj 0 0,.dat (.fn [tI,tI] tI)] [(0,.row 3 tI)] (.tup []) ds d:=by
 refine ej.of (by simp) ?_;unfold Oj at h;split at h
 case h_2=>cases h
 rename_i d0 f r xs;split at h
 case isFalse=>cases h
 rename_i hc;obtain⟨rfl,hlen,aK⟩:=hc;cases h;intro N V own hv w args cx FZ ar hC bo hN aJ bu dP h1 h2;obtain⟨v,u,rfl⟩:∃v u,args=#[v,u]:=by
  match args,aJ with
  |⟨[v,u]⟩,_=>exact⟨v,u,rfl⟩
 have eC:v=hv 0:=(h1 0).2 rfl;have hu:Rep ctx.cap V (.fn [tI,tI] tI) u (.clo 62 [.ref r]):=h1 1;obtain⟨p,rfl,hp⟩:∃p,u=.func (.func 62) #[] #[p]/\Rep ctx.cap V (.ref Y8) p (.ref r):=by
  obtain⟨vs,cs,rfl,k0,k1,k2,k3⟩:=QG hu;have cH:cs=⟨[.ref Y8],[I,I],I⟩:=by
   have e:ctx.cap 62=some ⟨[.ref Y8],[I,I],I⟩:=rfl;rw[e] at k0;exact(tX k0).symm
  subst cH
  match vs,k1 with
  |[p],_=>exact⟨p,rfl,k3 0 _ rfl⟩
 obtain⟨cells,fl,hx,cW,dt,iW⟩:=h2 0;have hx:D.list xs=D.list fl:=hx;cases hx;obtain⟨aY,bn⟩:=Th cW.1 dt
 have hint:∀x,x∈xs->x=.int x.i:=λx hx=>by
  obtain⟨i,hi,rfl⟩:=fm hx;obtain⟨vs,bJ,_⟩:=dt;obtain⟨n,e1,e2,_⟩:=(bJ i _ (aW hi)).int_inv;rw[e2];rfl
 by_cases h0:xs=[]
 .subst h0;obtain⟨q,cap,e1⟩:∃p cap,hv 0=.slice p 0 cap:=by
   rcases cW.2 with⟨e,_⟩|⟨g,cap,cur,e,_⟩
   .exact⟨_,_,e⟩
   .exact⟨_,_,e⟩
  rw[eC,e1];refine(AnyF.slices_SortFunc_none {Tryz.laysSlF6_f61 with} q cap _ w).mono λe w' hh=>?_;obtain⟨rfl,rfl⟩:=hh
  refine⟨.tuple #[],V,own,hv,.tup [],[.list []],rfl,rfl,rfl,.refl V,ar,.refl _ _,λk hk _=>rfl,
   λk o x hx=>⟨.inl hx,λhc=>by rw[(dP k hc).2.2.1 o] at hx;cases hx⟩,λk x hx=>⟨.inl hx,λhc=>by rw[(dP k hc).2.2.2] at hx;cases hx⟩,λk hx=>absurd hx (bo k),
   λk j hk=>by obtain⟨g1,g2,g3,g4⟩:=bu k j hk;exact⟨g1,g2,g3,g4,λ_ hn=>by rw[hk] at hn;cases hn⟩,λt sh hs hd=>?_,λj=>?_,.tup [] [] [] rfl rfl (λi t hi=>by simp at hi)⟩
  .match t,hs with
   |0,hs=>simp at hs;subst hs;exact⟨aX _,λ_=>by simp[e1]⟩
   |1,hs=>simp at hs;subst hs;cases hd
   |t+2,hs=>simp at hs
  .exact h2 j
 obtain⟨n,hn⟩:∃n,xs.length=n+1:=⟨xs.length-1,by have:=Ai.2 h0;omega⟩
 rcases cW.2 with⟨_,h0⟩|⟨g,cap,cur,e1,e2,e3,e4,e5,e6,e7⟩
 .omega
 have cH:(Ty.int .i64).size=1:=rfl;rw[cH] at e6 e7;have hg:g<w.heap.size:=(ei.1 e3).1;have ox:own g=some 0:=iW g (by rw[e1];rfl)
 have hH:Go.Sort.Holds (λi:Fin (n+1)=>Value.int .i64 (xs.getD i .none).i) w g 0 (Array.ofFn id):=by
  have hF:Go.Sort.Holds id w g 0 (xs.map λx=>Value.int .i64 x.i).toArray:=Sy e3 (by
   rw[IV] at e7;have:(xs.map λx=>Value.int .i64 x.i).toArray.size=xs.length:=by simp
   rw[this,e7,aY,nF];rfl)
  intro j hj;have bB:j<n+1:=by simpa using hj
  have R1:j<xs.length:=by omega
  have:=hF j (by simpa using R1);rw[getElem!_pos _ j (by simpa using R1)] at this;rw[getElem!_pos _ j hj];simpa [R1] using this
 have cY:=Any.slices_SortFunc_eq Tryz.laysSlF6_f61 (λi:Fin (n+1)=>Value.int .i64 (xs.getD i .none).i) (λ_=>rfl) (λi j=>dO r (xs.getD i .none)-dO r (xs.getD j .none)) (WZ (dO r) xs (n+1)) 62 #[p] g 0 cap (Array.ofFn id) w
  (enters_of Tryz.func62 (by kernel_rfl) rfl) (alS aK hn ar (bu g 0 ox).2.2.1 hp _) hH hg (by simp;omega)
 change Calls Tryz.prog 61 _ _ _ at cY;simp only[aaa] at cY;have mL:hv 0=.slice (some ⟨g,0,none⟩) (n+1) cap:=by rw[e1,hn]
 rw[eC,mL];refine cY.mono λe w' hh=>?_;obtain⟨rfl,m,os,rfl⟩:=hh;have vU:=Ol (dO r) xs n;have oF:(gJ (dO r) xs).length=xs.length:=(se (dO r) xs).length_eq;refine WE (C:=ctx) (k:=1) (rest:=[.dat (.fn [tI,tI] tI)]) (enc:=λi:Fin (n+1)=>Value.int .i64 (xs.getD i .none).i) (F:=oS (dO r) xs n) rfl ar bo bu dP mL e2 e3 (by rw[<-hn];exact e4) e5 e6 ox (by rw[oF,hn]) (by rw[vU,IV]) ?_ (by simp[mL]) rfl
 have e8:(oS (dO r) xs n).toList.map (λi:Fin (n+1)=>Value.int .i64 (xs.getD i .none).i)=((gJ (dO r) xs).map D.i).map (Value.int .i64):=by
  rw[aji hn,nF,nF];rfl
 have e9:((gJ (dO r) xs).map D.i).map D.int=gJ (dO r) xs:=by
  rw[nF]
  conv=>rhs;rw[<-xy (gJ (dO r) xs)]
  exact tW λx hx=>(hint x ((se (dO r) xs).mem_iff.1 hx)).symm
 rw[e8]
 have:=L3 (cap:=ctx.cap) (V:=V) (l:=(gJ (dO r) xs).map D.i) λx hx=>by
  obtain⟨y,hy,rfl⟩:=cr.1 hx;exact bn _ (xA ((se (dO r) xs).mem_iff.1 hy))
 rw[e9] at this;exact this
def aw5 {α:Type}[Inhabited α](enc:α->List Value)(k:Nat)(hk:∀x,(enc x).length=k)(d:Array α)(i:Nat)(hi:i<d.size)(y:α):setMany (flatK enc k d) (i*k) (enc y)=flatK enc k (d.setIfInBounds i y):=by
 refine ext_get! (by simp) λt ht=>?_;have vV:t<d.size*k:=by simpa using ht
 have k0:0<k:=by rcases Am k with h|h;·subst h;simp at vV
                 .exact h
 rw[get_setMany _ _ _ t (by simpa using vV),get_flatK _ _ _ t vV,get_flatK _ _ _ t (by simpa using vV),hk];have m:∀q,t/k=q->t-q*k=t%k:=λq h=>by subst h;rw[Nat.mod_eq_sub_div_mul]
 by_cases a:t/k=i
 .rw[if_pos ((blk_iff k i t k0).2 a),m i a,a];have e:(d.setIfInBounds i y)[i]! =y:=getElem!_set_same d i y hi;rw[e]
 .rw[if_neg (λh=>a ((blk_iff k i t k0).1 h))];have e:(d.setIfInBounds i y)[t/k]! =d[t/k]!:=getElem!_set_other d i (t/k) y a;rw[e]
def akr {α:Type}[Inhabited α]{enc:α->List Value}{k:Nat}{w0 W:World}{iS off:Nat}{dk:Array α}(h:SWK enc k w0 iS off dk W)(hk:∀x,(enc x).length=k)(hblk:iS<w0.heap.size)(i:Nat)(hi:i<dk.size)(y:α):SWK enc k w0 iS off (dk.setIfInBounds i y) (W.setCells iS (off+i*k) (enc y)):=by
 obtain⟨m,os,rfl⟩:=h;refine⟨m,os,?_⟩;unfold sortWorldK;rw[setCells_grow os iS _ _ _ (by show iS<(putRowK enc k _ iS off dk).heap.size;rw[size_putRowK];exact hblk)];unfold putRowK;rw[setCells_putRow _ _ _ _ _ _ (by rw[hk,size_flatK];exact rowK_bnd dk k i hi),aw5 enc k hk dk i hi y]
def awT {P:Program}(w:World)(t e ty:TypeId)(z:Value)(ht:P.underlying t=some (.slice e))(hv:∀w,(zeroValue e).run P w=.ok z w)(b o n c:Nat)(hn:0<n)(w':World)
 (hs:Sem.run P (storeCells ⟨b,o,none⟩ (Builtin.zeroCells z.cells n).toList 0) w=.ok () w'):
 (Builtin.clear_ #[t] ty #[.slice (some ⟨b,o,none⟩) n c]).run P w=.ok (.tuple #[]) w':=by
 obtain⟨m,rfl⟩:∃m,n=m+1:=⟨n-1,by omega⟩
 simp[Builtin.clear_,run_underlying ht,hv,hs]
end Rm
namespace Rm
open Go Go.Proofs Cx Go.RowKit Go.Sort Go.Lib
def gW (d:D):Bool:=decide ((d.c 3).i=1)&&(decide ((d.c 1).i=1)||(d.c 6).b)
set_option maxHeartbeats 1000000 in
def aeP (a0 a1 a2 a3 a4 a5:Int)(a6:Bool)(W:World):
 Calls Tryz.prog 57 #[.agg #[.int .i64 a0,.int .i64 a1,.int .i64 a2,.int .i64 a3,.int .i64 a4,.int .i64 a5,.bool a6]] W λe w'=>e=.returned (.bool (!(decide (a3=1)&&(decide (a1=1)||a6))))/\∃q ng,w'=grow (W.drewN q) ng:=by
 go_enter Tryz.func57,Tryz.ntmps57
 go_wp2
 all_goals
  go_ret
  refine⟨?_,0,_,by rw[alloc_eq_grow];rfl⟩;simp_all
def ak7 (W:World)(q:Nat)(os:Array Obj):Below W.heap.size W (grow (W.drewN q) os):=
 ⟨rfl,rfl,rfl,by show W.heap.size<=(W.heap++os).size;rw[Array.size_append];omega,λ_ hj=>heap_grow_old (W.drewN q) os hj⟩
def avv (w:World):PredBelow Tryz.prog 57 #[] (λx:D=>.agg (bT x).toArray) (λx=> !gW x) w:=λW x hb=>by
 refine(aeP (x.c 0).i (x.c 1).i (x.c 2).i (x.c 3).i (x.c 4).i (x.c 5).i (x.c 6).b W).mono λe w' hh=>?_;obtain⟨rfl,q,ng,rfl⟩:=hh;exact⟨rfl,hb.trans ((ak7 W q ng).mono hb.size)⟩
def anQ {xs:List D}{j:Nat}(hj:j<xs.length){i:Nat}{v:Value}(hv:(bT xs[j]!)[i]?=some v):(flatK bT 7 xs.toArray)[j*7+i]?=some v:=by
 have hi:i<7:=by have:=(eG.1 hv).1;simpa [bT] using this
 rw[<-oY,BJ nX];have e:xs[j]! =xs[j]:=getElem!_pos xs j hj;rw[e] at hv;have:=E7 nX xs j i _ (aW hj) hi;simp only[List.toList_toArray] at*;rw[this,hv]
def adE {w:World}{g off:Nat}{xs:List D}(hH:HoldsK bT 7 w g off xs.toArray){j:Nat}(hj:j<xs.length)(i:Nat)(v:Value)(hv:(bT xs[j]!)[i]?=some v):w.cell? ⟨g,off+j*7+i,none⟩=some v:=by
 have h:=anQ hj hv;have af:=(ei.1 h).1;have:=(hH (j*7+i) af).1;rw[getElem!_pos (flatK bT 7 xs.toArray) _ af,(ei.1 h).2] at this;rw[sw];exact this
def adF {w:World}{g off:Nat}{d:Array D}(hH:HoldsK bT 7 w g off d){j:Nat}(hj:j<d.size)(i:Nat)(v:Value)(hv:(bT d[j]!)[i]?=some v):w.cell? ⟨g,off+j*7+i,none⟩=some v/\w.frozen? ⟨g,off+j*7+i,none⟩=false:=by
 have hi:i<7:=by have:=(eG.1 hv).1;simpa [bT] using this
 have af:j*7+i<(flatK bT 7 d).size:=by rw[size_flatK];omega
 refine⟨?_,by have:=(hH (j*7+i) af).2;rw[sw];exact this⟩;have e:d.toList.toArray=d:=by simp
 have bB:j<d.toList.length:=by simpa using hj
 have e2:d.toList[j]! =d[j]!:=by rw[getElem!_pos d.toList j bB,getElem!_pos d j hj];simp
 exact adE (xs:=d.toList) (by rw[e];exact hH) bB i v (by rw[e2];exact hv)
def El (wr:World)(cs:Array Value)(T:TypeId)(q:Nat)(os:Array Obj)(k:Nat)(v:Value)(hv:cs[k]?=some v):(grow ((wr.alloc (.cells cs T)).drewN q) os).cell? ⟨wr.heap.size,k,none⟩=some v:=by
 rw[cell?_grow _ _ _ (by show wr.heap.size<(wr.heap.push _).size;rw[Array.size_push];omega)];show(wr.alloc _).cell? _=_;have e:(wr.alloc (.cells cs T)).heap[wr.heap.size]?=some (.cells cs T):=Array.getElem?_push_size;unfold World.cell?;simp only[e];exact hv
def anP {α:Type}{f:α->List Value}{k:Nat}(hk:∀x,(f x).length=k)(l:List α)(i:Nat)(hi:i<=l.length):(l.flatMap f).take (i*k)=(l.take i).flatMap f:=by
 have e:l.flatMap f=(l.take i).flatMap f++(l.drop i).flatMap f:=by rw[<-List.flatMap_append,IT]
 rw[e];exact List.take_left' (by rw[E8 hk,dL,mF hi])
def aw6 (F:Array Value)(s:Nat)(vs:List Value)(hs:s<=F.size):(setMany F s vs).toList.take s=F.toList.take s:=by
 apply vj;intro t;by_cases ht:t<s
 .have h1:t<F.size:=by omega
  have h2:t<(setMany F s vs).size:=by rw[size_setMany];omega
  rw[DN ht,DN ht,oY,oY,iM h1,iM h2];have:=get_setMany vs s F t h1;rw[if_neg (by omega),getElem!_pos _ t h2,getElem!_pos F t h1] at this;rw[this]
 .rw[aap (by omega),aap (by omega)]
def adD {w w1:World}{g off:Nat}{d:Array D}(hH:HoldsK bT 7 w g off d)(hg:g<w.heap.size)(hb:Below w.heap.size w w1):HoldsK bT 7 w1 g off d:=λj hj=>by
 have e:=hb.block g hg;obtain⟨h1,h2⟩:=hH j hj;exact⟨by rw[World.cell?_of_block (w:=w) e];exact h1,by rw[World.frozen?_of_block (w:=w) e];exact h2⟩
set_option maxHeartbeats 1000000 in
set_option maxRecDepth 100000 in
def amq (g off cap:Nat)(xs:List D)(w:World)(hH:HoldsK bT 7 w g off xs.toArray)(hg:g<w.heap.size)(aJ:xs.length<=4294967296)(eP:xs.length<=cap)(aFK:cap<=9223372036854775807):
 Calls Tryz.prog 56 #[.slice (some ⟨g,off,none⟩) xs.length cap,.func (.func 57) #[] #[]] w λe w'=>e=.returned (.slice (some ⟨g,off,none⟩) (xs.filter gW).length cap)/\
  ∃(w1:World) (m:Nat) (os:Array Obj) (F:Array Value),Below w.heap.size w w1/\F.size=xs.length*7/\F.toList.take ((xs.filter gW).length*7)=(xs.filter gW).flatMap bT/\w'=grow (putRow id (Sort.ahead w1 m) g off F) os:=by
 have eg:∀args w,(callFunc 57 args).run Tryz.prog w=.ok (.enter 57 args) w:=enters_of Tryz.func57 (by kernel_rfl) rfl;have uz:=AnyQ.slices_IndexFunc Tryz.ixE 7 Tryz.isAgg63 Tryz.sizeOf63 bT nX (λx=> !gW x) 57 #[] eg g off xs.length cap xs w (avv w) (aX _) (by omega) hg (λj hj i v hv=>adE hH hj i v hv);change Calls Tryz.prog 94 _ _ _ at uz;rw[DP] at uz;obtain⟨d,hd⟩:∃d,d=xs.toArray:=⟨_,rfl⟩
 have jN:d.size=xs.length:=by rw[hd];simp
 have Ln:∀j,j<xs.length->xs[j]! =d[j]!:=λj hj=>by rw[hd,getElem!_pos xs j hj,getElem!_pos xs.toArray j (by simpa using hj)];simp
 obtain⟨kp,HK⟩:∃kp:Nat->Bool,Hid (kp=λj=>gW d[j]!):=⟨_,rfl⟩
 have vI:xs.filter gW=keptUpTo kp d d.size:=by rw[HK.out,keptUpTo_filter gW d,hd]
 rw[vI];rcases idxByFrom_spec (λ_ y=> !gW y) default xs 0 with⟨e1,aK⟩|⟨k0,gT,e1,ht,aK⟩
 .have e2:Lib.idxBy (λ_ y=> !gW y) xs default=-1:=e1;rw[e2] at uz
  have rp:∀j,j<d.size->kp j=true:=λj hj=>by
   rw[HK.out];have:=aK j (by omega);rw[Ln j (by omega)] at this;simpa using this
  have e3:keptUpTo kp d d.size=d.toList:=by rw[keptUpTo_all kp d _ rp,range_map_get]
  have A:Aside (HoldsK bT 7 w g off xs.toArray):=hH;clear hH
  go_enter Tryz.func56,Tryz.ntmps56
  go_wp2_with (go_at_call 94;refine uz.mono ?_;rintro e w' ⟨rfl,hb⟩)
  go_ret
  rw[e3];refine⟨by simp[jN],w',0,#[],flatK bT 7 d,hb,by rw[size_flatK,jN],?_,?_⟩
  .rw[BJ nX,xD (by rw[E8 nX];exact aX _)]
  .rw[grow_empty];rw[<-hd] at A;exact(putRow_self id w' g off _ (adD A.out hg hb)).symm
 .have aqC:k0<d.size:=by omega
  have e2:Lib.idxBy (λ_ y=> !gW y) xs default=(k0:Int):=by unfold Lib.idxBy;rw[e1];simp
  rw[e2] at uz
  have rp:∀j,j<k0->kp j=true:=λj hj=>by
   rw[HK.out];have:=aK j hj;rw[Ln j (by omega)] at this;simpa using this
  have ap1:kp k0=false:=by
   rw[HK.out];have:=ht;rw[Ln k0 (by omega)] at this;simpa using this
  have Sj:((k0:Int)==-1)=false:=beq_eq_false_iff_ne.2 (by omega);have A:Aside (HoldsK bT 7 w g off xs.toArray):=hH;have AD:Aside (xs.toArray=d):=hd.symm;clear hH vI Ln aK ht e1 e2;have HD:Hid (d.size=xs.length):=jN;rw[jN];clear hd jN aqC;obtain⟨n,hn⟩:∃n,n=xs.length:=⟨_,rfl⟩
  have HN:Hid (d.size=n):=HD.out.trans hn.symm;rw[<-hn] at aJ eP uz gT ⊢;clear hn HD
  go_enter Tryz.func56,Tryz.ntmps56
  go_wp2_with (go_at_call 94;refine uz.mono ?_;rintro e w1 ⟨rfl,hb⟩)
  have hH1:HoldsK bT 7 w1 g off d:=by rw[<-AD.out];exact adD A.out hg hb
  have jv:g<w1.heap.size:=ln hg hb.size;have HH:Hid (HoldsK bT 7 w1 g off d):=hH1;have HB:Hid (Below w.heap.size w w1):=hb;clear hH1 hb
  go_loopg [5,6,7] n (λgg s5 s6 _ wr=>∃(i j:Nat) (dk:Array D),s5=.int .i64 i/\s6=.int .i64 j/\j<=n/\n-j<=gg/\Hid (SWK bT 7 w1 g off dk wr)/\Aside (KeptInv kp d j i dk))
  case atStart=>exact⟨k0,k0+1,d,rfl,by go_num,by omega,by omega,SWK.start HH.out,KeptInv.start rp ap1⟩
  case round=>
   obtain⟨i,j,dk,rfl,rfl,hjd,hgg,HS,I2⟩:=hrel;have hI:=I2.out;have dG:=hI.lt;have Lo:=hI.size;have bo:=HN.out;by_cases af:j<n
   .have aqM:(j:Int)<(n:Int):=by omega
    have R5:kp j=gW d[j]!:=by rw[HK.out]
    have EQ:Hid (d[j]! =d[j]!):=rfl;obtain⟨u,hu⟩:∃u,u=d[j]!:=⟨_,rfl⟩
    rw[<-hu] at R5;have hc:=λi v hv=>(adF (HS.out.holds jv HH.out Lo) (show j<dk.size by omega) i v hv).1;rw[hI.high j (by omega),<-hu] at hc;have c0:wr.cell? ⟨g,off+j*7,none⟩=some (.int .i64 (u.c 0).i):=hc 0 _ rfl;have c1:wr.cell? ⟨g,off+j*7+1,none⟩=some (.int .i64 (u.c 1).i):=hc 1 _ rfl;have c2:wr.cell? ⟨g,off+j*7+2,none⟩=some (.int .i64 (u.c 2).i):=hc 2 _ rfl;have c3:wr.cell? ⟨g,off+j*7+3,none⟩=some (.int .i64 (u.c 3).i):=hc 3 _ rfl;have c4:wr.cell? ⟨g,off+j*7+4,none⟩=some (.int .i64 (u.c 4).i):=hc 4 _ rfl;have c5:wr.cell? ⟨g,off+j*7+5,none⟩=some (.int .i64 (u.c 5).i):=hc 5 _ rfl;have c6:wr.cell? ⟨g,off+j*7+6,none⟩=some (.bool (u.c 6).b):=hc 6 _ rfl;clear hc;have cY:∀W,Calls Tryz.prog 57 #[.agg #[.int .i64 (u.c 0).i,.int .i64 (u.c 1).i,.int .i64 (u.c 2).i,.int .i64 (u.c 3).i,.int .i64 (u.c 4).i,.int .i64 (u.c 5).i,.bool (u.c 6).b]] W λe w'=>e=.returned (.bool (!gW u))/\∃q ng,w'=grow (W.drewN q) ng:=λW=>aeP _ _ _ _ _ _ _ W;have U:Hid (u=d[j]!/\kp j=gW u):=⟨hu,R5⟩
    clear hu R5 hI;have EU:Hid (bT u=[.int .i64 (u.c 0).i,.int .i64 (u.c 1).i,.int .i64 (u.c 2).i,.int .i64 (u.c 3).i,.int .i64 (u.c 4).i,.int .i64 (u.c 5).i,.bool (u.c 6).b]):=rfl;generalize gW u=ku at cY U;generalize (u.c 0).i=a0 at c0 cY EU;generalize (u.c 1).i=a1 at c1 cY EU;generalize (u.c 2).i=a2 at c2 cY EU;generalize (u.c 3).i=a3 at c3 cY EU;generalize (u.c 4).i=a4 at c4 cY EU;generalize (u.c 5).i=a5 at c5 cY EU;generalize (u.c 6).b=a6 at c6 cY EU
    go_wp2_with fail
    refine(cY _).mono ?_;rintro e w' ⟨rfl,qq,MO,rfl⟩;have IM:SWK bT 7 w1 g off dk (grow ((wr.alloc (.cells #[.int .i64 a0,.int .i64 a1,.int .i64 a2,.int .i64 a3,.int .i64 a4,.int .i64 a5,.bool a6] 63)).drewN qq) MO):=(HS.out.alloc _).grown qq MO;have rh:=λk v hv=>El wr #[.int .i64 a0,.int .i64 a1,.int .i64 a2,.int .i64 a3,.int .i64 a4,.int .i64 a5,.bool a6] 63 qq MO k v hv;have cW:=λk v hv=>adF (IM.holds jv HH.out Lo) (show i<dk.size by omega) k v hv;generalize grow ((wr.alloc (.cells #[.int .i64 a0,.int .i64 a1,.int .i64 a2,.int .i64 a3,.int .i64 a4,.int .i64 a5,.bool a6] 63)).drewN qq) MO=W2 at IM rh cW ⊢;obtain⟨x,hx⟩:∃x,x=dk[i]!:=⟨_,rfl⟩
    rw[<-hx] at cW;clear hx c0 c1 c2 c3 c4 c5 c6 HS cY;have b0:=rh 0 _ rfl;have b1:=rh 1 _ rfl;have b2:=rh 2 _ rfl;have b3:=rh 3 _ rfl;have b4:=rh 4 _ rfl;have b5:=rh 5 _ rfl;have b6:=rh 6 _ rfl;have r0:W2.cell? ⟨g,off+i*7,none⟩=some (.int .i64 (x.c 0).i)/\W2.frozen? ⟨g,off+i*7,none⟩=false:=cW 0 _ rfl;have r1:=cW 1 _ rfl;have r2:=cW 2 _ rfl;have r3:=cW 3 _ rfl;have r4:=cW 4 _ rfl;have r5:=cW 5 _ rfl;have r6:=cW 6 _ rfl;obtain⟨r0,s0⟩:=r0;obtain⟨r1,s1⟩:=r1;obtain⟨r2,s2⟩:=r2;obtain⟨r3,s3⟩:=r3;obtain⟨r4,s4⟩:=r4;obtain⟨r5,s5⟩:=r5;obtain⟨r6,s6⟩:=r6;clear cW rh;have SS:Hid (SWK bT 7 w1 g off dk W2):=IM;clear IM;cases ku with
    |false=>
     go_wp2
     go_roundg (n-(j+1))
     case measure=>omega
     case rel=>exact⟨i,j+1,dk,rfl,by go_num,by omega,aX _,SS,I2.out.skip U.out.2⟩
    |true=>
     have hiz:(i:Int)<(n:Int):=by omega
     go_wp2
     go_roundg (n-(j+1))
     case measure=>omega
     case rel=>
      refine⟨i+1,j+1,dk.setIfInBounds i u,by go_num,by go_num,by omega,aX _,?_,(show Aside _ from ?_)⟩
      .have:=akr SS.out nX jv i (by omega) u;rw[EU.out] at this;exact this
      .have:=I2.out.keep (by omega) U.out.2;rw[<-U.out.1] at this;exact this
   .obtain rfl:j=n:=by omega
    have aqM:¬(j:Int)<(j:Int):=by omega
    obtain⟨m,os,fG⟩:=HS.out;have hHk:=HS.out.holds jv HH.out Lo;have hiz:(i:Int)<=(j:Int):=by omega
    have hic:(i:Int)<=(cap:Int):=by omega
    obtain⟨zs,mX⟩:∃zs,zs=(Builtin.zeroCells (Value.agg #[.int .i64 0,.int .i64 0,.int .i64 0,.int .i64 0,.int .i64 0,.int .i64 0,.bool false]).cells (j-i)).toList:=⟨_,rfl⟩
    have kT:zs.length=(j-i)*7:=by rw[mX,z7,size_zeroCells];simp[Value.cells]
    have pP:∀v∈zs,v.oneCell'=true:=by
     intro v hv;rw[mX] at hv;unfold Builtin.zeroCells at hv;rw[vg,cr] at hv;obtain⟨a,_,rfl⟩:=hv;have h7:a%7<7:=qB _ (by decide);show((#[Value.int .i64 0,.int .i64 0,.int .i64 0,.int .i64 0,.int .i64 0,.int .i64 0,.bool false]:Array Value)[a%7]!).oneCell'=true;generalize a%7=b at h7;rcases b with _|_|_|_|_|_|_|b<;>first|rfl|omega
    have cI:Sem.run Tryz.prog (storeCells ⟨g,off+i*7,none⟩ zs 0) wr=.ok () (wr.setCells g (off+i*7) zs):=stores_of_holds Tryz.prog hHk (i*7) zs (by rw[kT,size_flatK];omega) pP;have aFM:∀ty,(Builtin.clear_ #[59] ty #[.slice (some ⟨g,off+i*7,none⟩) (j-i) (cap-i)]).run Tryz.prog wr=.ok (.tuple #[]) (wr.setCells g (off+i*7) zs):=λty=>
     awT wr 59 63 ty _ Tryz.underlying59 Tryz.zeroValue63 g (off+i*7) (j-i) (cap-i) (by omega) _ (by rw[<-mX];exact cI)
    have R:Hid (wr=sortWorldK bT 7 w1 g off m dk os/\zs.length=(j-i)*7):=⟨fG,kT⟩
    clear fG hHk mX kT pP cI
    go_wp2
    go_ret
    have hI:=I2.out;have hlen:=hI.len;refine⟨by rw[hlen];rfl,w1,HB.out,m,os,setMany (flatK bT 7 dk) (i*7) zs,by rw[size_setMany,size_flatK,Lo,bo],?_,?_⟩
    .rw[hlen,aw6 _ _ _ (by rw[size_flatK];omega),BJ nX,anP nX _ _ (by simp;omega)]
     congr 1
     apply vj;intro t;by_cases ht:t<i
     .have h1:=hI.low t ht;rw[h1,DN ht,oY,iM (by omega),getElem!_pos dk t (by omega)]
     .rw[j5 (by simp;omega),j5 (by omega)]
    .rw[R.out.1];unfold sortWorldK;rw[setCells_grow os g _ _ _ (by show g<(putRowK bT 7 _ g off dk).heap.size;rw[size_putRowK];exact jv)];unfold putRowK;rw[setCells_putRow _ _ _ _ _ _ (by rw[R.out.2,size_flatK];omega)]
set_option maxHeartbeats 1000000 in
def asd (fv:Value)(w:World):Calls Tryz.prog 94 #[.slice none 0 0,fv] w λe w'=>e=.returned (.int .i64 (-1))/\w'=w:=by
 go_enter Tryz.func94,Tryz.ntmps94
 go_wp2
 refine wp_loop_rounds 1 ?_;rw[rounds_succ]
 go_wp2
 go_ret
 exact⟨rfl,rfl⟩
set_option maxHeartbeats 1000000 in
def amr (fv:Value)(w:World):Calls Tryz.prog 56 #[.slice none 0 0,fv] w λe w'=>e=.returned (.slice none 0 0)/\w'=w:=by
 have uz:=asd fv w
 go_enter Tryz.func56,Tryz.ntmps56
 go_wp2_with (go_at_call 94;refine uz.mono ?_;rintro e w' ⟨rfl,rfl⟩)
 go_ret
 exact⟨rfl,rfl⟩
def KK (ds:List D):Option D:=
 match ds with
 |[.list xs,.clo f []]=>if f=57/\xs.length<=4294967296 then some (.list (xs.filter gW)) else none
 |_=>none
def amo (ds:List D)(d:D)(h:KK ds=some d):ej ctx 56 [.obj 0 0,.dat (.fn [tE] .bool)] [(0,.row 63 tE),(1,.tr)] (.slice tE) ds d:=by
 unfold KK at h;split at h
 case h_2=>cases h
 rename_i dX f;split at h
 case isFalse=>cases h
 rename_i hc;obtain⟨rfl,hlen⟩:=hc;cases h;show xp ctx 56 63 tE [.fn [tE] .bool] [.list dX,.clo 57 []] _;intro N V w v args xs cells ds' jN ar hC hN cW dt hblk ha;cases jN;obtain⟨a1,a2,a3⟩:=ha;obtain⟨u,rfl⟩:∃u,args=[u]:=by
  match args,a1 with
  |[u],_=>exact⟨u,rfl⟩
 have hu:Rep ctx.cap V (.fn [tE] .bool) u (.clo 57 []):=a3 0 _ rfl;obtain rfl:u=.func (.func 57) #[] #[]:=by
  obtain⟨vs,cs,rfl,_,k1,k2,_⟩:=QG hu;have:vs=[]:=vl.1 (by rw[k1,<-k2];rfl);rw[this]
 obtain⟨aY,hE⟩:=abS cW.1 dt;rcases cW.2 with⟨e1,h0⟩|⟨g,cap,cur,e1,e2,e3,e4,e5,e6,e7⟩
 .obtain rfl:dX=[]:=vl.1 h0;subst e1;refine(amr _ w).mono λx w' hh=>?_;obtain⟨rfl,rfl⟩:=hh;exact⟨_,[],[],rfl,rfl,.refl _ _,λ_ _ _=>rfl,World.ownsRow_nil _ _ _ _,⟨λ_=>undef,by simp,by simp⟩,λk hk=>by cases hk⟩
 subst e1;have hg:g<w.heap.size:=(ei.1 e3).1;have hH:HoldsK bT 7 w g 0 dX.toArray:=by
  refine Sy e3 ?_;rw[BJ nX,size_flatK,show dX.toArray.size*7=dX.length*tE.size by simp;rfl,e7,aY]
 have cY:=amq g 0 cap dX w hH hg hlen e4 (by unfold maxLen at e5;omega);refine cY.mono λx w' hh=>?_;obtain⟨rfl,w1,m,os,F,hb,hF,hT,rfl⟩:=hh;have EG:w1.heap[g]?=some (.cells cur 63 (0,0)):=by rw[hb.block g hg];exact e3
 have fA:=Rr (enc:=id) (w:=w1) (g:=g) (n:=m) (os:=os) F;have Ca:=ahq (enc:=id) (w:=w1) (base:=N) (n:=m) (os:=os) (m:=dX.length) (k:=7) hF e2 EG e4 e5 e6;generalize Go.Sort.grow (Go.Sort.putRow id (Go.Sort.ahead w1 m) g 0 F) os=W at*;have vJ:(dX.filter gW).length<=dX.length:=oZ _ _;refine⟨_,dX.filter gW,(dX.filter gW).flatMap bT,rfl,rfl,⟨fA.os.trans hb.os,fA.tape.trans hb.tape,fA.output.trans hb.output,gl hb.size fA.size,λk hk=>?_⟩,λk hk au=>?_,?_,abT λx hx=>hE x (eH.1 hx).1,λk hk=>?_⟩
 .rw[fA.block k (ln hk (gl hN hb.size)) (λe=>by cases e;omega),hb.block k (ln hk hN)]
 .rw[fA.block k (ln hk hb.size) (λe=>au (by cases e;rfl)),hb.block k hk]
 .refine⟨by rw[E8 nX];rfl,?_⟩;rcases Ca.2 with⟨f1,_⟩|⟨g',alp,QL,f1,f2,f3,f4,f5,f6,f7⟩
  .cases f1
  .cases f1;refine .inr ⟨g,cap,QL,rfl,f2,f3,by omega,f5,f6,?_⟩;have:=congrArg (List.take ((dX.filter gW).length*7)) f7;rw[Ph,mF (ka _ vJ),xy,hT] at this;exact this
 .have bf:g=k:=by simpa [Value.ownBlock] using hk
  subst bf;exact⟨.inl (by simp[Value.ownBlock]),ln (ln hg hb.size) fA.size⟩
end Rm
