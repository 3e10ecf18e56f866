/-
  Shared texts of this claim.
-/
import Derived.Test.YtopjnikcppafdaaGreatDoorProg
import Derived.Test.YtopjnikcppafdaaGreatDoorMAI
import Derived.Sort.AssemblyPlain
import Derived.Test.YtopjnikcppafdaaGreatDoorMAA
import Derived.Sort.OwnSorted
import Derived.Lib.BitFns
import Derived.Shelf.GgSortFunc.RowK
import Derived.Shelf.Sort.Plain
import Derived.Ground.Names2Prog
import Derived.Shelf.Slices.Clone
import Derived.Shelf.Slices.CompactI
import Derived.Shelf.Slices.In.SortNone
import Derived.Ground.SlsfProg
import Derived.Ground.SlgfProg
import Derived.Ground.SlgnProg
import Derived.Shelf.SlicesE.Clone
import Derived.Shelf.SlSortCmp.Whole1
import Derived.Shelf.SlSortCmp.WholeK
import Derived.Shelf.SlicesQ.IndexFunc
import Derived.Shelf.SlSortCmp.NoneTotal
import Derived.Sort.OwnSortedInts
import Derived.Shelf.SlSortCmp.KitK
import Derived.Lib.SlKept
import Derived.Shelf.SlicesE.DeleteFunc
set_option linter.defProp false
set_option linter.unusedVariables false
set_option maxRecDepth 100000
noncomputable section
namespace Rm
open Go Go.Proofs Cx
abbrev I:Ty:=.int .i64
abbrev Y0:Ty:=.agg [.str,I,I,(.slice I),(.slice I),(.slice I)]
abbrev Y1:Ty:=.agg [I]
abbrev Y2:Ty:=.agg [.str,I,I]
abbrev Y3:Ty:=.agg [I,I,.bool]
abbrev Y4:Ty:=.agg [I,I,I,(.slice .trm)]
abbrev Y5:Ty:=.agg [.str,.bool,(.slice Y3),(.slice Y4)]
abbrev Y6:Ty:=.agg [I,I,I]
abbrev Y7:Ty:=.agg [I,I,I,I,I]
abbrev Y8:Ty:=.agg [(.slice .str),(.slice Y0),(.slice Y1),(.slice Y2),(.slice Y5),(.slice Y6),(.slice Y7),(.slice Y6)]
abbrev Y9:Ty:=.agg [I,I,I,I,I,I,I,I,I]
abbrev jo:Ty:=.agg [I,I]
abbrev eA:Ty:=.agg [I,I,I,I,I,I,I,I,I,I,I,I,I,I,I,(.slice Y9),(.slice jo),(.slice Y9),(.slice Y6)]
abbrev vE:Ty:=.agg [I,(.slice jo)]
abbrev gQ:Ty:=.agg [I,I,I,I,I,I,.bool]
abbrev Je:Ty:=.agg [(.slice .str),(.slice Y0),(.slice Y1),(.slice Y2),(.slice Y5),(.slice Y6),(.slice Y7),(.slice Y6),I,I,I,I,I,I,I,I,I,I,I,I,I,I,I,I,I,(.slice Y9),(.slice jo),(.slice Y9),(.slice Y6),I,I]
abbrev Jf:Ty:=.agg [I,I,I,I,I,I,I,I,I,I,I,I,I,I,I]
abbrev D0:Ty:=.agg [.bool,I,I,(.slice I),I]
abbrev uu:Ty:=.agg [I,I,(.slice .trm)]
abbrev sN:Ty:=.agg [I,I,I,I,I,I,I,I,I,I,I,I,I,I,I,(.slice Y9),(.slice jo),(.slice Y9),(.slice Y6),I,I,I,I,I]
abbrev l5:Ty:=.agg [.bool,I]
abbrev Y20:Ty:=.agg [(.slice l5)]
abbrev Y21:Ty:=.agg [(.slice I),I]
abbrev zzv (a:List Ty)(r:Ty):Sig:=⟨a,r,.dat⟩
def xj:List (Nat×Sig):=[
 (3,zzv [Y8,I,eA,I,vE,Y9] .bool),
 (5,zzv [] .bool),
 (6,zzv [Y8,eA,vE] .bool),
 (7,zzv [Y8,eA,Y9] (.tup [eA,I])),
 (8,zzv [Y8,I,eA,I,vE] (.tup [I,I])),
 (9,zzv [Y8,I,eA,I,vE] (.tup [I,I])),
 (10,⟨[Y8,I,eA,I],(.slice gQ),(.row 59 gQ)⟩),
 (12,zzv [Y8,I,eA,I,I] (.slice I)),
 (17,zzv [] Y8),
 (18,zzv [Y8,(.slice I),vE] (.tup [I,I])),
 (19,zzv [] vE),
 (20,zzv [I,I] eA),
 (21,zzv [vE] I),
 (22,zzv [(.slice I),(.slice I)] .bool),
 (23,zzv [Y8,eA] .bool),
 (24,zzv [Y8] I),
 (25,zzv [Y8,eA] I),
 (26,⟨[(.slice Y9)],(.slice Y9),(.row 46 Y9)⟩),
 (27,⟨[(.slice jo)],(.slice jo),(.row 83 jo)⟩),
 (28,⟨[(.slice Y9)],(.slice Y9),(.row 86 Y9)⟩),
 (29,⟨[(.slice Y6)],(.slice Y6),(.row 89 Y6)⟩),
 (30,zzv [Y8,I,eA,I] I),
 (31,zzv [I,I,I] (.tup [I,I])),
 (32,zzv [Y8,I] .bool),
 (33,⟨[Y8,I,eA,I],(.slice gQ),(.row 59 gQ)⟩),
 (34,⟨[(.slice gQ),(.fn [gQ,gQ] I)],(.tup []),(.ob [(.obj 0 0),(.dat (.fn [gQ,gQ] I))] [(0,(.row 59 gQ))])⟩),
 (35,zzv [gQ,gQ] I),
 (36,zzv [Y8,(.slice I),vE] I),
 (37,⟨[Y8,(.slice gQ),I],(.slice I),(.row 3 I)⟩),
 (38,zzv [Y8,I,eA,I] Je),
 (39,zzv [Je,I] gQ),
 (47,zzv [jo] .bool),
 (48,zzv [(.slice jo),(.fn [jo] .bool)] .bool),
 (49,zzv [Y8] .bool),
 (50,zzv [eA] .bool),
 (51,zzv [Y5] .bool),
 (52,zzv [Y8] I),
 (53,zzv [Y8] I),
 (54,zzv [Y8] I),
 (55,zzv [Y8] I),
 (56,zzv [Y8] I),
 (57,zzv [Y8,Jf] I),
 (58,zzv [Y8,eA,I] I),
 (59,zzv [I,I,I] .bool),
 (60,zzv [Y8,eA] I),
 (61,zzv [eA] I),
 (62,⟨[eA,I],eA,(.rows [.dat I,.dat I,.dat I,.dat I,.dat I,.dat I,.dat I,.dat I,.dat I,.dat I,.dat I,.dat I,.dat I,.dat I,.dat I,.row 46 Y9,.row 83 jo,.row 86 Y9,.row 89 Y6])⟩),
 (63,zzv [D0] I),
 (64,zzv [Y8,I,I,eA,I] D0),
 (65,zzv [Y8,Jf,I,I] (.tup [I,I])),
 (66,zzv [eA] I),
 (67,zzv [I,I] .bool),
 (68,zzv [I,I,I] (.tup [I,I,.bool])),
 (69,⟨[(.slice gQ),(.fn [gQ] .bool)],(.slice gQ),(.ob [(.obj 0 0),(.dat (.fn [gQ] .bool))] [(0,(.row 59 gQ)),(1,.tr)])⟩),
 (70,zzv [gQ] .bool),
 (73,⟨[(.slice I)],(.slice I),(.row 3 I)⟩),
 (74,⟨[(.slice I),(.fn [I,I] I)],(.tup []),(.ob [(.obj 0 0),(.dat (.fn [I,I] I))] [(0,(.row 3 I))])⟩),
 (75,zzv [I,I,(.ref Y8)] I),
 (76,⟨[(.slice I)],(.tup []),(.ob [(.obj 0 0)] [(0,(.row 3 I))])⟩),
 (77,⟨[(.slice I)],(.slice I),(.ob [(.obj 0 0)] [(0,(.row 3 I)),(1,.tr)])⟩),
 (78,zzv [D0] I),
 (79,zzv [eA,I,I] .bool),
 (80,zzv [(.slice I)] I),
 (81,zzv [Je,I,I] I),
 (82,zzv [Je,I] (.tup [I,I])),
 (83,zzv [(.int .u64),(.int .u64)] (.tup [(.int .u64),(.int .u64)])),
 (88,zzv [(.slice jo),(.fn [jo] .bool)] I),
 (89,zzv [uu] .bool),
 (90,zzv [(.slice .str),I] I),
 (91,zzv [Y8,Y0] .bool),
 (92,zzv [I,I,I] .bool),
 (93,zzv [Y5] .bool),
 (94,zzv [Y8] I),
 (95,zzv [I,I] .bool),
 (96,zzv [Jf] .bool),
 (97,zzv [Y8,I,I] (.tup [I,I])),
 (98,zzv [Y8,eA,I] .bool),
 (99,zzv [Y8,eA,Y9] .bool),
 (100,zzv [(.slice I)] I),
 (101,zzv [I,I] I),
 (102,zzv [I,I] .bool),
 (103,zzv [Y8,I,I,sN] D0),
 (104,zzv [Y8,I] .bool),
 (105,zzv [I] .bool),
 (106,zzv [Y6] .bool),
 (107,zzv [Y8,Jf,I] (.tup [I,I])),
 (108,zzv [Y8,I,I] (.tup [I,I])),
 (109,zzv [(.slice I)] I),
 (110,zzv [(.int .u64),(.int .u64),(.int .u64)] (.tup [(.int .u64),(.int .u64)])),
 (121,zzv [(.int .u64)] I),
 (124,zzv [eA,I] (.map I .bool)),
 (125,zzv [eA,I] I),
 (126,zzv [uu,I,I] I),
 (127,zzv [.str] .bool),
 (128,zzv [(.slice .str),I,.str] .bool),
 (129,zzv [(.slice I),I,I] .bool),
 (130,zzv [Y8] (.tup [(.slice .str),(.slice .str),(.slice .str)])),
 (131,zzv [(.slice .str),I,(.fn [I] .bool)] I),
 (132,zzv [I] .bool),
 (133,zzv [I,(.ref Y8)] .bool),
 (134,zzv [Y8,Y0] .bool),
 (135,zzv [I,I] .bool),
 (136,zzv [I,(.ref Y8)] .bool),
 (137,zzv [I,(.ref Y8)] .bool),
 (138,zzv [Y5] .bool),
 (139,zzv [Y8] I),
 (140,zzv [Y8] I),
 (141,zzv [eA,I,(.slice I)] .bool),
 (142,zzv [eA,I,I] .bool),
 (143,zzv [I] .bool),
 (144,zzv [Y8,I,I,sN] (.tup [D0,(.slice l5)])),
 (145,zzv [Y5,I,(.slice l5)] (.tup [l5,I])),
 (146,zzv [I,Y6] (.tup [I,I])),
 (147,zzv [Y8,I] I),
 (148,zzv [Y8,I,I] I),
 (149,zzv [Y0,I] (.tup [I,I])),
 (150,zzv [(.int .u64)] I),
 (173,zzv [(.int .u8)] .bool),
 (174,zzv [(.slice .str),I] I),
 (175,zzv [(.slice I),I,I] .bool),
 (176,zzv [(.slice I),I] .bool),
 (177,zzv [Y8,sN] (.tup [sN,(.slice l5)])),
 (178,zzv [I] (.tup [I,.bool])),
 (179,zzv [Y8,I,sN] (.nsl I)),
 (180,zzv [Y8,I,I,(.slice I)] (.tup [(.slice I),I])),
 (181,zzv [Y5,I] (.tup [uu,I])),
 (182,zzv [uu,(.slice l5)] l5),
 (183,zzv [I,I] (.tup [I,I])),
 (184,zzv [I] .bool),
 (185,zzv [Y0,I,I] (.fn [(.fn [I] .bool)] (.tup []))),
 (193,zzv [.str] .bool),
 (194,zzv [(.slice .str),.str] .bool),
 (195,zzv [(.slice I),I] I),
 (196,zzv [Y8,sN] (.slice l5)),
 (197,zzv [Y8,I,I,(.slice I)] .bool),
 (198,zzv [Y8,I,I,(.slice I)] (.tup [I,.bool])),
 (199,zzv [(.slice Y4),(.fn [Y4] .bool)] I),
 (200,zzv [Y4,(.ref I)] .bool),
 (201,zzv [uu] (.tup [I,I])),
 (202,zzv [Y20,uu] (.tup [l5,(.slice I)])),
 (203,zzv [I] (.tup [I,I,I])),
 (204,zzv [I,I,I] (.tup [I,I])),
 (205,zzv [I,I] I),
 (207,zzv [Y0,I] .bool),
 (210,zzv [(.slice .str),.str] I),
 (211,zzv [(.slice jo),(.fn [jo] .bool)] .bool),
 (212,zzv [jo,(.ref sN)] .bool),
 (213,zzv [.bool] l5),
 (214,zzv [eA,I,I] l5),
 (215,zzv [(.slice I),(.fn [I] .bool)] .bool),
 (216,zzv [I,(.ref I)] .bool),
 (217,zzv [uu,I] I),
 (218,zzv [uu] (.tup [I,I])),
 (219,zzv [Y20,I] l5),
 (220,zzv [I,(.slice l5)] l5),
 (221,zzv [(.slice (.slice I))] (.slice I)),
 (222,zzv [I,I,I] I),
 (223,zzv [(.slice jo),(.fn [jo] .bool)] I),
 (224,zzv [(.slice I),(.fn [I] .bool)] I),
 (225,zzv [uu] (.tup [I,I])),
 (226,zzv [I] Y21),
 (227,zzv [I] (.tup [I,.bool])),
 (228,zzv [.bool] l5),
 (229,zzv [I] I),
 (230,zzv [I,I,I] I),
 (231,⟨[.nils .bool,I],(.slice I),(.row 3 I)⟩),
 (232,zzv [I,I] I)]
def QE:List (Nat×CSig):=[
 (35,⟨[],[gQ,gQ],I⟩),
 (47,⟨[],[jo],.bool⟩),
 (70,⟨[],[gQ],.bool⟩),
 (75,⟨[(.ref Y8)],[I,I],I⟩),
 (132,⟨[],[I],.bool⟩),
 (133,⟨[(.ref Y8)],[I],.bool⟩),
 (136,⟨[(.ref Y8)],[I],.bool⟩),
 (137,⟨[(.ref Y8)],[I],.bool⟩),
 (200,⟨[(.ref I)],[Y4],.bool⟩),
 (206,⟨[(.ref I),(.ref I),(.ref Y0)],[(.fn [I] .bool)],(.tup [])⟩),
 (212,⟨[(.ref sN)],[jo],.bool⟩),
 (216,⟨[(.ref I)],[I],.bool⟩)]
noncomputable def ctx:Ctx:={P:=Tryz.prog,cap:=bK QE,sig:=bK xj,aut:=λ_=>none,glob:=OI 2 [6,7,10,12,13,14,15,16,20,21]}
abbrev Ox (i:Nat):Sig:=(bK xj i).getD default
def cF (a b:List Nat)(f:Func)(i:Nat)(l:List Nat):Option PC:=mU {ctx with fr:=a,nh:=b} f (Ox i) l
def aT {o:Option PC}{t:PT}{l:List (Shp×PT)}(h:o.map told=some (t,l)):tree (ab o)=t:=bH (F:=λ_=>(t,l)) h
def av (o:Option PC){p:PT×List (Shp×PT)}(h:o.map told=some p):o=some (ab o):=axR (F:=λ_=>p) h
def ax (l a b:List Nat){f:Nat}{fn:Func}{c:PC}(h0:ctx.P.funcs[f]?=some fn)(h1:ctx.sig f=some (Ox f))(h2:mU {ctx with fr:=a,nh:=b} fn (Ox f) l=some c):∃fn s ids fr nh,ctx.P.funcs[f]?=some fn/\ctx.sig f=some s/\mU {ctx with fr:=fr,nh:=nh} fn s ids=some c:=⟨fn,Ox f,l,a,b,h0,h1,h2⟩
abbrev kZ:PE:=.setc (.con (.agg [(.int 0),(.int 0),(.int 0),(.int 0),(.int 0),(.int 0),(.int 0),(.int 0),(.int 0),(.int 0),(.int 0),(.int 0),(.int 0),(.int 0),(.int 0),(.list []),(.list []),(.list []),(.list [])])) 0 (.mk [(aA 15 (.setc DJ 0 (.mk [(pi 0),(pi 1),(pi 0),(pi 1000),(pi 0),(.mk [(pi 3),(pi 40),(pi 0)]),(pi 2),(pi 0),(pi 0),(pi (-1)),(pi 0),(pi 1),(pi 1)]))),(.lst [(aA 9 (.setc z9 0 (.mk [(pi 0),(pi 0),(pi 0),(pi (-1)),(pi (-1)),(pi 0),(pi 2),(pi 0),(pi 0)]))),(aA 9 (.setc z9 0 (.mk [(pi 1),(pi 0),(pi 1),(pi (-1)),(pi (-1)),r0,(pi 3),(pi 0),(pi 0)])))]),pL,pL,(.lst [(.mk [(pi 0),(pi 0),r1]),(.mk [(pi 0),(pi 1),(pi 1)])])])
abbrev G3:PE:=.setc (.con (.agg [(.list []),(.list []),(.list []),(.list []),(.list []),(.list []),(.list []),(.list [])])) 0 (.mk [(.lst [(.con (.v (.string ⟨#[102,114,97,110,99]⟩)))]),(.lst [(.mk [(.con (.v (.string ⟨#[76,121,111,110]⟩))),(pi 0),(pi 0),pL,pL,pL])]),(.lst [(.mk [(pi 3)]),(.mk [(pi 5)])]),(.lst [(.mk [(.con (.v (.string ⟨#[97]⟩))),(pi 0),(pi 1)]),(.mk [(.con (.v (.string ⟨#[98]⟩))),(pi 0),(pi 0)])]),(.lst [(.mk [(pc (.setc (.con (.agg [(.v (.string ⟨#[]⟩)),(.bool false),(.list []),(.list [])])) 0 (.mk [(.con (.v (.string ⟨#[103,101,110,101,118,97]⟩))),pF,pL,(.lst [(.mk [(pi 0),(.mk [(pc (.setc (.con (.agg [(.int 0),(.int 0),(.list [])])) 0 (.mk [(pi 1),(pi 1),pL])) 0),(pc (.setc (.con (.agg [(.int 0),(.int 0),(.list [])])) 0 (.mk [(pi 1),(pi 1),pL])) 1),pL])]),(.mk [(pi 1),(.mk [(pc (.setc (.con (.agg [(.int 0),(.int 0),(.list [])])) 0 (.mk [(pi 1),(pi 1),pL])) 0),(pc (.setc (.con (.agg [(.int 0),(.int 0),(.list [])])) 0 (.mk [(pi 1),(pi 1),pL])) 1),pL])]),(.mk [(pi 2),(.mk [(pi 2),(pi 15),pL])])])])) 0),(pc (.setc (.con (.agg [(.v (.string ⟨#[]⟩)),(.bool false),(.list []),(.list [])])) 0 (.mk [(.con (.v (.string ⟨#[103,101,110,101,118,97]⟩))),pF,pL,(.lst [(.mk [(pi 0),(.mk [(pc (.setc (.con (.agg [(.int 0),(.int 0),(.list [])])) 0 (.mk [(pi 1),(pi 1),pL])) 0),(pc (.setc (.con (.agg [(.int 0),(.int 0),(.list [])])) 0 (.mk [(pi 1),(pi 1),pL])) 1),pL])]),(.mk [(pi 1),(.mk [(pc (.setc (.con (.agg [(.int 0),(.int 0),(.list [])])) 0 (.mk [(pi 1),(pi 1),pL])) 0),(pc (.setc (.con (.agg [(.int 0),(.int 0),(.list [])])) 0 (.mk [(pi 1),(pi 1),pL])) 1),pL])]),(.mk [(pi 2),(.mk [(pi 2),(pi 15),pL])])])])) 1),pL,(pc (.setc (.con (.agg [(.v (.string ⟨#[]⟩)),(.bool false),(.list []),(.list [])])) 0 (.mk [(.con (.v (.string ⟨#[103,101,110,101,118,97]⟩))),pF,pL,(.lst [(.mk [(pi 0),(.mk [(pc (.setc (.con (.agg [(.int 0),(.int 0),(.list [])])) 0 (.mk [(pi 1),(pi 1),pL])) 0),(pc (.setc (.con (.agg [(.int 0),(.int 0),(.list [])])) 0 (.mk [(pi 1),(pi 1),pL])) 1),pL])]),(.mk [(pi 1),(.mk [(pc (.setc (.con (.agg [(.int 0),(.int 0),(.list [])])) 0 (.mk [(pi 1),(pi 1),pL])) 0),(pc (.setc (.con (.agg [(.int 0),(.int 0),(.list [])])) 0 (.mk [(pi 1),(pi 1),pL])) 1),pL])]),(.mk [(pi 2),(.mk [(pi 2),(pi 15),pL])])])])) 3)])]),pL,pL,pL])
abbrev zI:PE:=.ai .quo .i64 (bq (aF (bq (.ai .rem .i64 (aF r0 (pi 730425)) (pi 146097)) (.ai .quo .i64 (.ai .rem .i64 (aF r0 (pi 730425)) (pi 146097)) (pi 1460))) (.ai .quo .i64 (.ai .rem .i64 (aF r0 (pi 730425)) (pi 146097)) (pi 36524))) (.ai .quo .i64 (.ai .rem .i64 (aF r0 (pi 730425)) (pi 146097)) (pi 146096))) (pi 365)
abbrev lb:PE:=.con (.v (.string ⟨#[0,1,2,2,3,3,3,3,4,4,4,4,4,4,4,4,5,5,5,5,5,5,5,5,5,5,5,5,5,5,5,5,6,6,6,6,6,6,6,6,6,6,6,6,6,6,6,6,6,6,6,6,6,6,6,6,6,6,6,6,6,6,6,6,7,7,7,7,7,7,7,7,7,7,7,7,7,7,7,7,7,7,7,7,7,7,7,7,7,7,7,7,7,7,7,7,7,7,7,7,7,7,7,7,7,7,7,7,7,7,7,7,7,7,7,7,7,7,7,7,7,7,7,7,7,7,7,7,8,8,8,8,8,8,8,8,8,8,8,8,8,8,8,8,8,8,8,8,8,8,8,8,8,8,8,8,8,8,8,8,8,8,8,8,8,8,8,8,8,8,8,8,8,8,8,8,8,8,8,8,8,8,8,8,8,8,8,8,8,8,8,8,8,8,8,8,8,8,8,8,8,8,8,8,8,8,8,8,8,8,8,8,8,8,8,8,8,8,8,8,8,8,8,8,8,8,8,8,8,8,8,8,8,8,8,8,8,8,8,8,8,8,8,8,8,8,8,8,8,8,8,8,8,8,8,8]⟩))
abbrev zL:PE:=.ai .or .u64 (.ai .shl .u64 r0 (.conv .u64 oZ)) (.ai .shr .u64 r1 (.ai .sub .u64 (.con (.v (.int .u64 64))) (.conv .u64 oZ)))
abbrev tP:PE:=.con (.agg [(.int 0),(.int 0),(.int 0),(.int 0),(.int 0),(.int 0),(.int 0),(.int 0),(.int 0),(.int 0),(.int 0),(.int 0),(.int 0),(.int 0),(.int 0),(.list []),(.list []),(.list []),(.list [])])
abbrev gF:PE:=.con (.agg [(.bool false),(.int 0)])
abbrev tR:PE:=.ai .sub .u64 (.ai .add .u64 (.ai .mul .u64 bQ (.con (.v (.int .u64 4294967296)))) db) (.ai .mul .u64 dB r2)
abbrev sq:PE:=.ai .shr .u64 (.ai .shl .u64 r2 (.conv .u64 oZ)) (.con (.v (.int .u64 32)))
abbrev Nj:PE:=.ai .quo .i64 (aF (.ai .mul .i64 (pi 5) (bq (.ai .rem .i64 (aF r0 (pi 730425)) (pi 146097)) (bq (aF (.ai .mul .i64 (pi 365) zI) (.ai .quo .i64 zI (pi 4))) (.ai .quo .i64 zI (pi 100))))) (pi 2)) (pi 153)
abbrev tO:PE:=.deref (.con (.ref (.agg [(.int 6),(.int 7),(.int 10),(.int 12),(.int 13),(.int 14),(.int 15),(.int 16),(.int 20),(.int 21)])))
abbrev lS:PE:=.setc z3 0 (.mk [(pc (.mk [r0]) 5),(pc (.mk [r0]) 6),(pc (.mk [r0]) 7)])
abbrev Nr:PE:=.put (.put (.put (.put (.con (.map [])) (pi 7) (aJ (.ai .and .i64 (pc o6 13) (pi 1)) (pi 0))) (pi 8) (peq (pc o6 2) (pi (-1)))) (pi 9) (aJ (.ai .and .i64 (pc o6 13) (pi 4)) (pi 0))) (pi 10) (aJ (.ai .and .i64 (pc o6 13) (pi 2)) (pi 0))
abbrev la:PE:=.con (.v (.int .u64 4294967296))
abbrev Vq:PE:=.mk [(pc (.mk [r0]) 10),(pc (.mk [r0]) 11),(pc (.mk [r0]) 12),(pc (.mk [r0]) 13),(pc (.mk [r0]) 14),(pc (.mk [r0]) 15),(pc (.mk [r0]) 16),(pc (.mk [r0]) 17),(pc (.mk [r0]) 18),(pc (.mk [r0]) 19),(pc (.mk [r0]) 20),(pc (.mk [r0]) 21),(pc (.mk [r0]) 22),(pc (.mk [r0]) 23),(pc (.mk [r0]) 24),(pc (.mk [r0]) 25),(pc (.mk [r0]) 26),(pc (.mk [r0]) 27),(pc (.mk [r0]) 28)]
abbrev wU:PE:=.con (.v (.int .u64 32))
abbrev nr:PE:=.con (.agg [(.int 0),(.int 0),(.list [])])
abbrev C2:PE:=.con (.agg [(.int 0),(.int 0),(.int 0),(.int 0),(.int 0),(.int 0),(.bool false)])
abbrev Vr:PE:=.con (.agg [(.list []),(.list []),(.list []),(.list []),(.list []),(.list []),(.list []),(.list []),(.int 0),(.int 0),(.int 0),(.int 0),(.int 0),(.int 0),(.int 0),(.int 0),(.int 0),(.int 0),(.int 0),(.int 0),(.int 0),(.int 0),(.int 0),(.int 0),(.int 0),(.list []),(.list []),(.list []),(.list []),(.int 0),(.int 0)])
abbrev lT:PE:=.setc (.setc (.setc o8 16 pN) 17 pN) 18 pN
abbrev cO:PE:=pi 4294967296
abbrev mw:PE:=.con (.agg [(.list []),(.int 0)])
abbrev zH:PE:=.con (.v (.int .u64 4294967295))
abbrev my:PE:=.setc o6 0 (.mk [DJ,pL,pL,pL,pL])
abbrev qv:PE:=.setc z9 0 (pn (pc (.mk [r1]) 15) r2)
abbrev C3:PE:=.mk [(pc (.setc gF 0 eJ) 0),(pc (.setc gF 0 eJ) 1)]
abbrev C4:PE:=.setc z9 0 (pn (pc (.mk [r2]) 15) (pc (.mk [r2]) 19))
abbrev kF:PE:=.setc (.mk [r3]) 18 pL
abbrev se:PE:=.conv .u64 oZ
abbrev Vs:PE:=.put (.put (.put (.con (.map [])) (pi 0) (pc o6 3)) (pi 1) (pc o6 14)) (pi 2) (pc o6 5)
abbrev Nv:PE:=.pick (.pick (peq (.tget sr 0) (pi 0)) (pc cd 0) pF) (.setc cd 1 (.mn (.mx (pc cd 1) (pi 0)) (pi 20000))) cd
abbrev G4:PE:=.mk [(pc (.setc o4 0 (.mk [pF,(pi 0)])) 0),(pc (.setc o4 0 (.mk [pF,(pi 0)])) 1)]
abbrev C5:PE:=.con (.agg [(.bool false),(.int 0),(.int 0),(.list []),(.int 0)])
abbrev Nw:PE:=.con (.agg [(.int 0),(.int 0),(.bool false)])
abbrev Nx:PE:=.ai .shr .u64 (.ai .sub .u64 (.ai .add .u64 (.ai .mul .u64 lf la) cu) (.ai .mul .u64 cI r2)) r8
abbrev zJ:PE:=.setc (.setc cd 3 (.tget C8 0)) 4 (.tget C8 1)
abbrev vf:PE:=.ai .shr .u64 r0 wU
abbrev j4:PE:=aA 8 (.mk [r0])
abbrev Ny:PE:=.con (.v (.int .u64 16))
abbrev j5:PE:=pc (.mk [r0]) 0
abbrev qw:PE:=.con (.v (.int .u64 8))
abbrev Nz:PE:=aF (bq (aF (.ai .mul .i64 (pi 12) (.tget gG 0)) (.tget gG 1)) (pi 1)) r1
abbrev ah2:PE:=.con (.agg [(.int 0),(.int 0),(.int 0),(.int 0),(.int 0),(.int 0),(.int 0),(.int 0),(.int 0),(.int 0),(.int 0),(.int 0),(.int 0),(.int 0),(.int 0),(.list []),(.list []),(.list []),(.list []),(.int 0),(.int 0),(.int 0),(.int 0),(.int 0)])
abbrev zK:PE:=pc (.mk [r0]) 2
abbrev Vt:PE:=.pick (bk cI la) pT (aW (.ai .mul .u64 cI dA) (.ai .add .u64 (.ai .mul .u64 la cj) cu))
abbrev Vu:PE:=.pick (bk dB la) pT (aW (.ai .mul .u64 dB dA) (.ai .add .u64 (.ai .mul .u64 la cj) db))
abbrev mz:PE:=pc (.mk [r0]) 1
abbrev mA:PE:=.llen (pc o1 1)
abbrev Vv:PE:=.mk [(pc (.setc o4 0 (.mk [(pi 0),(pi 0),pL])) 0),(pc (.setc o4 0 (.mk [(pi 0),(pi 0),pL])) 1),pL]
abbrev NA:PE:=.ai .sub .u64 zL (.ai .mul .u64 (.ai .quo .u64 zL sq) sq)
abbrev ns:PE:=.llen (pc o3 2)
abbrev NB:PE:=.ai .sub .u64 tR (.ai .mul .u64 (.ai .quo .u64 tR r9) r9)
abbrev C6:PE:=.setc z3 0 (pn cm cu)
abbrev NC:PE:=bk (.ai .sub .u64 (.con (.v (.int .u64 64))) se) (pi 0)
abbrev ND:PE:=.setc z2 0 (pn (pc o5 1) (pc (pn (pc o3 2) (pn o1 cI)) 0))
abbrev mB:PE:=.setc o4 0 o5
abbrev oY:PE:=.llen (pc o1 3)
abbrev ah3:PE:=.pick (.pick (peq (.tget jk 0) (.con (.v (.int .u64 0)))) (aj (.tget jk 1) (.con (.v (.int .u64 1099511627776)))) pF) (.conv .i64 (.tget jk 1)) (pi 1099511627776)
abbrev Vw:PE:=aA 5 (.setc o8 0 (.mk [(pc cd 0),(pc cd 1),(pc cd 2),(.o 16394),(pc cd 4)]))
abbrev qx:PE:=.llen (pc o1 4)
abbrev ah4:PE:=.pick (.pick (.pick (aj (pc C4 2) (pi 0)) pT (bk (pc C4 2) (.llen (pc (.mk [r0]) 3)))) pT (aj r1 (pi 0))) pT (bk r1 (.llen (pc (.mk [r0]) 4)))
abbrev sf:PE:=pc (.mk [r0]) 15
abbrev Vx:PE:=.put (.con (.map [])) (pi 7) (aJ (.ai .and .i64 (pc o6 13) (pi 1)) (pi 0))
abbrev G5:PE:=.ai .shl .u64 r2 se
abbrev ah5:PE:=.ai .shl .u64 r1 se
abbrev ah6:PE:=.ai .add .u64 (.ai .mul .u64 vf (.ai .and .u64 r1 zH)) (.ai .shr .u64 (.ai .mul .u64 (.ai .and .u64 r0 zH) (.ai .and .u64 r1 zH)) wU)
abbrev G6:PE:=.setc z9 0 (pn (pc (.mk [r0]) 25) r1)
abbrev ah7:PE:=.app o2 (.lst [(pc (.setc (.con (.agg [(.v (.string ⟨#[]⟩)),(.int 0),(.int 0),(.list []),(.list []),(.list [])])) 0 (pn cm cu)) 0)])
abbrev G7:PE:=bq (pi 2) (pc (pn o7 (pi 0)) 1)
abbrev mC:PE:=pn cu cj
abbrev NF:PE:=.setc nr 0 (.sub (pn (pc o2 3) gG) 1 3)
abbrev tQ:PE:=.llen (pc o1 2)
abbrev NG:PE:=.ai .add .u64 (.ai .mul .u64 dB la) cI
abbrev NH:PE:=.pick (aj r1 (pi 3)) (bq r0 (pi 1)) r0
abbrev ah8:PE:=.app o4 (.lst [(pc (.setc (.con (.agg [(.v (.string ⟨#[]⟩)),(.bool false),(.list []),(.list [])])) 0 (pn jD qB)) 0)])
abbrev ah9:PE:=.setc (.con (.agg [(.list []),(.list []),(.list []),(.list []),(.list []),(.list []),(.list []),(.list [])])) 0 cu
abbrev aia:PE:=.put (.put (.put Nr (pi 11) (aJ NK VC)) (pi 12) db) (pi 13) (aJ (.ai .and .i64 (pc o8 8) (pi 1)) (pi 0))
abbrev sk:PE:=pn r1 (pi 1)
abbrev qy:PE:=pn dA cm
abbrev wV:PE:=pi 1000000000
abbrev aib:PE:=.setc o0 0 (.mk [(pi 100),(.setn (.setn o1 (pi 3) 0 (.mk [(pi 1),(pi 10)])) (pi 5) 0 (.mk [(pi 1),(pi 2)]))])
abbrev vg:PE:=aF r8 (pi 1)
abbrev G8:PE:=.mk [(pc cd 0),(pc cd 1)]
abbrev Vy:PE:=.put (.put Vs (pi 3) (pc o6 12)) (pi 4) (pc o8 0)
abbrev aic:PE:=.pick (aW (.llen (pc (pn (pc o1 1) r3) 4)) (pi 70)) pT (aW (.llen (pc (pn (pc o1 1) r3) 5)) (pi 210))
abbrev sl:PE:=aj cu db
abbrev G9:PE:=.setc Nw 0 (pn gG kH)
abbrev sm:PE:=.llen zK
abbrev aid:PE:=.app o3 (.lst [(pc (.setc (.con (.agg [(.v (.string ⟨#[]⟩)),(.int 0),(.int 0)])) 0 (pn kH eJ)) 0)])
abbrev aie:PE:=.app o4 (.lst [(pc (.setc (.con (.agg [(.int 0),(.int 0),(.int 0),(.list [])])) 0 (pn eJ nv)) 0)])
abbrev wW:PE:=pc (.mk [r0]) 5
abbrev wX:PE:=.llen (pc o1 0)
abbrev aif:PE:=.an (.cb .eql (pc (pn r1 (pi 0)) 0) (pc C3 0)) (.an (peq (pc (pn r1 (pi 0)) 1) (pc C3 1)) pT)
abbrev aih:PE:=.app (.o 69637) (.lst [(.mk [(pc (.setc z2 0 (pn mE tV)) 0),(pc (.setc z2 0 (pn mE tV)) 1)])])
abbrev Ha:PE:=.ai .shr .u64 vf Ny
abbrev C7:PE:=.ai .add .u64 cj r9
abbrev Vz:PE:=.setc o4 0 (.mk [(pc o9 0),(pc o9 1),(pc o9 2)])
abbrev VA:PE:=.setc (.setc o6 4 (.tget pf 0)) 5 (.tget pf 1)
abbrev NI:PE:=peq r0 (.con (.v (.int .u64 0)))
abbrev ahP:PE:=.pick (aW (aF Nj (pi 3)) (pi 12)) (bq (aF Nj (pi 3)) (pi 12)) (aF Nj (pi 3))
abbrev ahQ:PE:=.pick (.nt (.nt (.an (.an cu pT) (.nt pF)))) (.app (.o 1000) (.lst [(.tup [r5])])) (.o 1000)
abbrev wS:PE:=aF r3 (pi 1)
abbrev CY:PE:=aJ (pi 100) (pi 0)
abbrev zC:PE:=pi 1099511627776
abbrev ahR:PE:=.setc o4 0 (.mk [(pc (.setc gF 0 (.tget iO 0)) 0),(pc (.setc gF 0 (.tget iO 0)) 1)])
abbrev GV:PE:=.tget (.o 1000000013) 1
abbrev GW:PE:=.setc z9 0 (pn Hd lg)
abbrev GX:PE:=.llen (pc (.mk [r0]) 4)
abbrev Nk:PE:=.setc gF 0 (.mk [pT,(pi 1)])
abbrev Nl:PE:=.setc gF 0 (.mk [pT,(pi 0)])
abbrev Nn:PE:=bq (.llen (pc o3 3)) (pi 1)
abbrev zD:PE:=pn (pc o1 4) r4
abbrev Vk:PE:=peq (.sidx r0 r3) (.con (.v (.int .u8 95)))
abbrev ahS:PE:=aF (.ai .mul .i64 (.ai .rem .i64 (bq (pc ML 5) dB) wV) (bq wV mE)) cu
abbrev ahT:PE:=.pick (.pick (peq (pc C6 0) r1) (bG (pc C6 1) r2) pF) (bG r2 (pc C6 2)) pF
abbrev zE:PE:=.mk [pF,(pi 0)]
abbrev zF:PE:=.llen (pc o1 7)
abbrev GY:PE:=.con (.agg [(.int 0)])
abbrev GZ:PE:=.ai .shr .u64 r0 Ny
abbrev ahU:PE:=aF zI (.ai .mul .i64 (pi 400) (.ai .quo .i64 (aF r0 (pi 730425)) (pi 146097)))
abbrev Vl:PE:=.app o5 (.lst [(pc (pn (pc o1 1) r6) 0)])
abbrev Vm:PE:=.app o4 (.lst [(pc (pn (pc o1 3) r5) 0)])
abbrev zG:PE:=aF r5 (pi 1)
abbrev CZ:PE:=bk wU (pi 0)
abbrev ahV:PE:=.pick (aW (.tget nv 1) (pi 0)) (aF (.tget nv 0) (pi 1)) (.tget nv 0)
abbrev Vn:PE:=.setc C2 0 (.sub (pn T2 qA) 0 7)
abbrev No:PE:=.con (.v (.int .u64 256))
abbrev Np:PE:=.ai .shr .u64 ah5 wU
abbrev Nq:PE:=.ai .and .u64 ah5 zH
abbrev Ns:PE:=.ai .and .u64 G5 zH
abbrev wT:PE:=aj cm bQ
abbrev C0:PE:=aF cm (pi 1)
abbrev Vo:PE:=.pick (bk r0 (pi 0)) (aj r0 r1) pF
abbrev C1:PE:=.llen (pc o1 5)
abbrev ahW:PE:=.setc o4 0 (.mk [(pc (.setc gF 0 NQ) 0),(pc (.setc gF 0 NQ) 1)])
abbrev ahX:PE:=.setc o4 0 (.mk [(pc (.setc gF 0 lU) 0),(pc (.setc gF 0 lU) 1)])
abbrev ahY:PE:=.setc mw 0 (.mk [(.lst [(pi 1),(pi (-1)),(pi (-1))]),(pi (-1))])
abbrev ahZ:PE:=.pick (aJ (pc o3 22) (pi (-1))) (bq (pc o8 6) (pc o3 22)) (pi 0)
abbrev Nt:PE:=.con (.v (.int .u64 1))
abbrev ah0:PE:=.app o7 (.lst [(pc (pn (pc o3 3) (pc (.setc C2 0 qy) 2)) 2)])
abbrev Vp:PE:=.ai .rem .i64 (pn r8 dA) (pi 100)
abbrev Nu:PE:=.ai .quo .u64 zL sq
abbrev G0:PE:=aA 19 (.mk [r2])
abbrev G1:PE:=aA 19 (.mk [r1])
abbrev ah1:PE:=.app (.o 77829) (.lst [(.mk [(pc T3 0),(pc T3 1),(pc T3 2)])])
end Rm
set_option linter.unusedSimpArgs false
namespace Rm
open Go Cx Go.Sort
def wN (key:D->Int)(xs:List D){n:Nat}(i j:Fin n):Bool:=decide (key (xs.getD i .none)-key (xs.getD j .none)<0)
def pj (key:D->Int)(xs:List D)(n:Nat):Array (Fin (n+1)):=pdq (wN key xs) (Array.ofFn id) 0 (n+1) (Lib.bitLen (n+1)) true true
def gM (key:D->Int)(xs:List D):List D:=
 match xs.length with
 |0=>[]
 |n+1=>(pj key xs n).toList.map λi:Fin (n+1)=>xs.getD i .none
def Xb (key:D->Int)(xs:List D)(n:Nat):SWO (wN key xs (n:=n)) where
 irrefl x:=by simp[wN]
 trans x y z h1 h2:=by simp[wN] at*;omega
 ntrans x y z h1 h2:=by simp[wN] at*;omega
def W6 (key:D->Int)(xs:List D)(n:Nat):PermIn 0 (n+1) (Array.ofFn (id:Fin (n+1)->Fin (n+1))) (pj key xs n)/\SortedIn (wN key xs) 0 (n+1) (pj key xs n):=by
 have h:=pdq_sorts (wN key xs (n:=n+1)) (Xb key xs (n+1)) (Array.ofFn id) 0 (n+1) (Lib.bitLen (n+1)) true true (jK _) (by simp) (Or.inl rfl);exact⟨h.1,h.2⟩
def afN {xs:List D}{n:Nat}(h:xs.length=n):(Array.ofFn (id:Fin n->Fin n)).toList.map (λi:Fin n=>xs.getD i .none)=xs:=by
 apply Pm
 .simp[h]
 .intro i h1 h2;simp[h2]
def OD (key:D->Int)(xs:List D)(n:Nat):(pj key xs n).size=n+1:=by
 have:=(W6 key xs n).1.1;simpa using this
def sE (key:D->Int)(xs:List D):(gM key xs).Perm xs:=by
 unfold gM;split
 .rename_i h;rw[vz.1 h]
 .rename_i n h;have h1:=(W6 key xs n).1.2.2;have hz:=OD key xs n;have e1:(pj key xs n).extract 0 (n+1)=pj key xs n:=by
   apply Array.ext
   .simp[hz]
   .intro i h1 h2;simp
  have e2:(Array.ofFn (id:Fin (n+1)->Fin (n+1))).extract 0 (n+1)=Array.ofFn id:=by simp
  rw[e1,e2] at h1;have h2:=h1.map λi:Fin (n+1)=>xs.getD i .none;rw[afN h] at h2;exact h2
def ajo (key:D->Int)(xs:List D):(gM key xs).Pairwise λa b=>key a<=key b:=by
 unfold gM;split
 .exact .nil
 .rename_i n h;have h1:=(W6 key xs n).2;have hz:=OD key xs n;rw[I4,I3];intro i j hi hj dw;have df:i<(pj key xs n).size:=by simpa using hi
  have bC:j<(pj key xs n).size:=by simpa using hj
  have h2:=h1 i j (jK _) dw (by omega);rw[getElem!_pos _ i df,getElem!_pos _ j bC] at h2;simp[wN] at h2;simp;omega
def Fb {α:Type}{f:α->List Value}{k:Nat}(hk:∀x,(f x).length=k):∀(l:List α) (i j:Nat) (x:α),l[i]?=some x->j<k->(l.flatMap f)[i*k+j]?=(f x)[j]?
 |[],i,j,x,h,_=>by simp at h
 |y::l,0,j,x,h,hj=>by
  simp at h;subst h;rw[vy,Px,fw,nP (by rw[hk];exact hj)]
 |y::l,i+1,j,x,h,hj=>by
  rw[vy,nQ (by rw[hk,jH];omega),hk,show(i+1)*k+j-k=i*k+j by rw[jH];omega];exact Fb hk l i j x (by simpa using h) hj
def Fc {α:Type}{f:α->List Value}{k:Nat}(hk:∀x,(f x).length=k)(l:List α):(l.flatMap f).length=l.length*k:=by
 induction l with
 |nil=>simp
 |cons x l ih=>rw[vy,mM,ih,hk,qT,jH];omega
def BS {α:Type}[Inhabited α]{enc:α->List Value}{k:Nat}(hk:∀x,(enc x).length=k)(d:Array α):(flatK enc k d).toList=d.toList.flatMap enc:=by
 apply vx;intro t;by_cases ht:t<d.size*k
 .have k0:0<k:=by rcases DY k with h|h;·subst h;simp at ht
                  .exact h
  have hi:t/k<d.size:=(vB k0).2 ht;have hm:t%k<k:=pD _ k0;have e:=Fb hk d.toList (t/k) (t%k) d[t/k] (by simp[hi]) hm;rw[show t/k*k+t%k=t by rw[uq];exact xU t k] at e;rw[e];have h1:=get_flatK enc k d t ht;have hl:(enc d[t/k]).length=k:=hk _;rw[getElem!_pos _ t (by simpa using ht),getElem!_pos d _ hi,getElem!_pos _ (t%k) (by rw[hl];exact hm)] at h1;rw[py,ir (by simpa using ht),h1,aU (by rw[hl];exact hm)]
 .rw[kg (by simp;omega),kg (by rw[Fc hk];simp;omega)]
def aqb {α:Type}[Inhabited α]{enc:α->Value}{w:World}{g n:Nat}{os:Array Obj}{cur:Array Value}{e:TypeId}{fr:Nat×Nat}(d:Array α)(hb:w.heap[g]?=some (.cells cur e fr)):
 (grow (putRow enc (Sort.ahead w n) g 0 d) os).heap[g]?=some (.cells (putCells enc 0 d cur) e fr):=by
 have hg:g<w.heap.size:=(ed.1 hb).1;rw[heap_grow_old _ _ (by simpa using hg)];simp[putRow,mapBlock,Sort.ahead,Pd,hb,onCells]
def Ry {α:Type}[Inhabited α]{enc:α->Value}{w:World}{g n:Nat}{os:Array Obj}(d:Array α):w.grownBy (grow (putRow enc (Sort.ahead w n) g 0 d) os) (some g):=by
 refine⟨rfl,rfl,rfl,by simp,λk hk au=>?_⟩;rw[heap_grow_old _ _ (by simpa using hk)];have:g≠k:=λe=>au (by rw[e]);simp[putRow,mapBlock,Sort.ahead,Pd,this]
def axD {α:Type}[Inhabited α]{enc:α->Value}(cur:Array Value)(d:Array α)(h:d.size<=cur.size):(putCells enc 0 d cur).toList.take d.size=d.toList.map enc:=by
 apply vx;intro j;by_cases hj:j<d.size
 .rw[DV hj,py];simp[putCells,hj,show j<cur.size by omega]
 .rw[aax (by omega),kg (by simp;omega)]
def ahv {α:Type}[Inhabited α]{enc:α->Value}{w:World}{base g cap n m k:Nat}{e:TypeId}{os:Array Obj}{cur:Array Value}{d:Array α}(hd:d.size=m*k)(apW:base<=g)(hb:w.heap[g]?=some (.cells cur e (0,0)))
 (h1:m<=cap) (h2:cap<=maxLen) (h3:cur.size=cap*k):
 (grow (putRow enc (Sort.ahead w n) g 0 d) os).ownsRow base e k (.slice (some ⟨g,0,none⟩) m cap) m (d.toList.map enc):=
 ⟨by simp[hd],.inr ⟨g,cap,_,rfl,apW,aqb d hb,h1,h2,by simp[putCells,h3],by rw[<-hd];exact axD cur d (by rw[hd,h3];exact jJ _ h1)⟩⟩
end Rm
namespace Rm
open Go Go.Proofs Cx Go.RowKit
abbrev tI:Ty:=.int .i64
abbrev tE:Ty:=.agg [tI,tI,tI,tI,tI,tI,.bool]
def bR (d:D):List Value:=[.int .i64 (d.c 0).i,.int .i64 (d.c 1).i,.int .i64 (d.c 2).i,.int .i64 (d.c 3).i,.int .i64 (d.c 4).i,.int .i64 (d.c 5).i,.bool (d.c 6).b]
def ox (d:D):(bR d).length=7:=rfl
def Am (n:Int):Prop:=IntKind.i64.min<=n/\n<=IntKind.i64.max
def vw (d:D):Prop:=∃(a b c e f g:Int) (h:Bool),d=.agg [.int a,.int b,.int c,.int e,.int f,.int g,.bool h]/\Am a/\Am b/\Am c/\Am e/\Am f/\Am g
def vw.of_rep {cap:Nat->Option CSig}{V:Im}{v:Value}{d:D}(h:Rep cap V tE v d):vw d/\v=.agg (bR d).toArray:=by
 obtain⟨vs,ds,rfl,rfl,h1,h2,h3,_⟩:=h.agg_inv
 match vs,ds,h1,h2 with
 |[x0,x1,x2,x3,x4,x5,x6],[a0,a1,a2,a3,a4,a5,a6],_,_=>
  obtain⟨n0,e0,f0,g0⟩:=(h3 0 _ rfl).int_inv;obtain⟨n1,e1,f1,g1⟩:=(h3 1 _ rfl).int_inv;obtain⟨n2,e2,f2,g2⟩:=(h3 2 _ rfl).int_inv;obtain⟨n3,e3,f3,g3⟩:=(h3 3 _ rfl).int_inv;obtain⟨n4,e4,f4,g4⟩:=(h3 4 _ rfl).int_inv;obtain⟨n5,e5,f5,g5⟩:=(h3 5 _ rfl).int_inv;obtain⟨b,e6,f6⟩:=(h3 6 _ rfl).bool_inv;simp only[qQ,DT] at e0 f0 e1 f1 e2 f2 e3 f3 e4 f4 e5 f5 e6 f6;subst e0 f0 e1 f1 e2 f2 e3 f3 e4 f4 e5 f5 e6 f6;exact⟨⟨n0,n1,n2,n3,n4,n5,b,rfl,g0,g1,g2,g3,g4,g5⟩,rfl⟩
def vw.rep {cap:Nat->Option CSig}{V:Im}{d:D}(h:vw d):Rep cap V tE (.agg (bR d).toArray) d:=by
 obtain⟨a,b,c,e,f,g,h,rfl,h1,h2,h3,h4,h5,h6⟩:=h;refine .agg [tI,tI,tI,tI,tI,tI,.bool] [.int .i64 a,.int .i64 b,.int .i64 c,.int .i64 e,.int .i64 f,.int .i64 g,.bool h] _ rfl rfl (λi t hi=>?_) (λi t hi=>?_)
 .match i,hi with
  |0,hi=>cases hi;exact .int _ _ h1.1 h1.2
  |1,hi=>cases hi;exact .int _ _ h2.1 h2.2
  |2,hi=>cases hi;exact .int _ _ h3.1 h3.2
  |3,hi=>cases hi;exact .int _ _ h4.1 h4.2
  |4,hi=>cases hi;exact .int _ _ h5.1 h5.2
  |5,hi=>cases hi;exact .int _ _ h6.1 h6.2
  |6,hi=>cases hi;exact .bool _
 .match i,hi with
  |0,hi=>cases hi;rfl
  |1,hi=>cases hi;rfl
  |2,hi=>cases hi;rfl
  |3,hi=>cases hi;rfl
  |4,hi=>cases hi;rfl
  |5,hi=>cases hi;rfl
  |6,hi=>cases hi;rfl
def abZ {cap:Nat->Option CSig}{V:Im}{cells:List Value}{xs:List D}(hl:cells.length=xs.length*7)(h:dh cap V tE cells xs):cells=xs.flatMap bR/\∀x,x∈xs->vw x:=by
 obtain⟨vs,bI,RU⟩:=h;have hE:∀i (hi:i<xs.length),vw xs[i]/\vs i=.agg (bR xs[i]).toArray:=λi hi=>vw.of_rep (bI i _ (aU hi));constructor
 .apply vx;intro t;by_cases ht:t<xs.length*7
  .have hi:t/7<xs.length:=by omega
   have hm:t%7<7:=by omega
   have e1:=Fb ox xs (t/7) (t%7) _ (aU hi) hm;have e2:t/7*7+t%7=t:=by omega
   rw[e2] at e1;have hu:=aU (show t%7<(bR xs[t/7]).length from hm);have:=RU (t/7) (t%7) _ hi (by rw[(hE _ hi).2];show(bR xs[t/7]).toArray[t%7]?=_;rw[xN];exact hu);have e3:t/7*tE.size+t%7=t:=by show t/7*7+t%7=t;exact e2
   rw[e3] at this;rw[this,e1,hu]
  .rw[kg (by omega),kg (by rw[Fc ox];omega)]
 .intro x hx;obtain⟨i,hi,rfl⟩:=ew hx;exact(hE i hi).1
def ab0 {cap:Nat->Option CSig}{V:Im}{xs:List D}(h:∀x,x∈xs->vw x):dh cap V tE (xs.flatMap bR) xs:=by
 refine⟨λi=>.agg (bR (xs.getD i .none)).toArray,λi x hx=>?_,λi j u hi hj=>?_⟩
 .have e:xs.getD i .none=x:=by rw[aE,hx];rfl
  show Rep cap V tE (.agg (bR (xs.getD i .none)).toArray) x;rw[e];exact(h x (kh hx)).rep
 .have hx:=aU hi;have e:xs.getD i .none=xs[i]:=by rw[aE,hx];rfl
  have hj:(bR (xs.getD i .none)).toArray[j]?=some u:=hj;rw[e,xN] at hj;have bC:(bR xs[i])[j]?=some u:=hj;have hj7:j<7:=by have:=(eu.1 bC).1;simpa [bR] using this
  show(xs.flatMap bR)[i*7+j]?=some u;rw[Fb ox xs i j _ hx hj7];exact bC
def anw (xs:List D):∀v∈xs.flatMap bR,v.oneCell'=true:=by
 intro v hv;obtain⟨x,_,hx⟩:=xQ.1 hv;simp[bR] at hx;rcases hx with rfl|rfl|rfl|rfl|rfl|rfl|rfl<;>rfl
def WO {C:Ctx}{g N m cap k n:Nat}{T:TypeId}{e:Ty}{rest:List Sh}{ds:List D}{V:Im}{own:Nat->Option Nat}{hv:Nat->Value}{w:World}{args:Array Value}{cx:Nat->Prop}{α:Type}[Inhabited α]{enc:α->Value}{F:Array α}{os:Array Obj}{cur:Array Value}{ys:List D}
 (hk:e.size=k) (ar:V.ok w) (bo:∀k,V.m k≠some cC) (bp:∀k j,own k=some j->N<=k/\k<w.heap.size/\(∀o,V.c k o=none)/\V.m k=none)
 (dR:∀k,cx k->k<w.heap.size/\own k=none/\(∀o,V.c k o=none)/\V.m k=none)
 (e1:hv 0=.slice (some ⟨g,0,none⟩) m cap) (e2:N<=g) (e3:w.heap[g]?=some (.cells cur T (0,0))) (e4:m<=cap) (e5:cap<=maxLen) (e6:cur.size=cap*k) (oI:own g=some 0) (oQ:ys.length=m) (hF:F.size=m*k)
 (cU:dh C.cap V e (F.toList.map enc) ys) (ha0:args.getD 0 undef=hv 0) (tB:rest.all qg=true):
 ∃v V' own' hv' dr nq,Ending.returned (.tuple #[])=Ending.returned v/\D.tup [.tup [],.list ys]=.tup (dr::nq)/\nq.length=1/\V.le V'/\V'.ok (Go.Sort.grow (Go.Sort.putRow enc (Go.Sort.ahead w n) g 0 F) os)/\Below 0 w (Go.Sort.grow (Go.Sort.putRow enc (Go.Sort.ahead w n) g 0 F) os)/\
  (∀k,k<w.heap.size->own k=none->(Go.Sort.grow (Go.Sort.putRow enc (Go.Sort.ahead w n) g 0 F) os).heap[k]?=w.heap[k]?)/\
  (∀k o x,V'.c k o=some x->(V.c k o=some x\/N<=k)/\¬cx k)/\(∀k x,V'.m k=some x->(V.m k=some x\/N<=k)/\¬cx k)/\(∀k,V'.m k=some cC->N<=k->k<w.heap.size->own k≠none)/\
  (∀k j,own' k=some j->N<=k/\k<(Go.Sort.grow (Go.Sort.putRow enc (Go.Sort.ahead w n) g 0 F) os).heap.size/\(∀o,V'.c k o=none)/\V'.m k=none/\(k<w.heap.size->own k≠none))/\
  (∀(t:Nat) (sh:Sh),(Sh.obj 0 0::rest)[t]?=some sh->qg sh=false->aG C (fi (.obj 0 0::rest) [(0,.row T e)]) (lQ [(0,.row T e)] ds nq) V' hv' sh (args.getD t undef) (ds.getD t .none))/\
  (∀j,bY C (fi (.obj 0 0::rest) [(0,.row T e)]) (lQ [(0,.row T e)] ds nq) V' own' hv' (Go.Sort.grow (Go.Sort.putRow enc (Go.Sort.ahead w n) g 0 F) os) N j (ei [(0,.row T e)] j))/\Rep C.cap V' (.tup []) v dr:=by
 obtain⟨_,_,hgc,uQ⟩:=bp g 0 oI;have eV:=Ry (enc:=enc) (w:=w) (g:=g) (n:=n) (os:=os) F;have Cl:=ahv (enc:=enc) (w:=w) (base:=N) (n:=n) (os:=os) (m:=m) (k:=k) hF e2 e3 e4 e5 e6;generalize Go.Sort.grow (Go.Sort.putRow enc (Go.Sort.ahead w n) g 0 F) os=w' at*;have iJ:∀k,k<w.heap.size->k≠g->w'.heap[k]?=w.heap[k]?:=λk hk au=>eV.block k hk (λe=>au (by cases e;rfl));have ac4:∀k o x,V.c k o=some x->k≠g:=λk o x hx e=>by subst e;rw[hgc o] at hx;cases hx
 have aq0:∀k x,V.m k=some x->k≠g:=λk x hx e=>by subst e;rw[uQ] at hx;cases hx
 refine⟨.tuple #[],V,λk=>if own k=some 0 then some 0 else none,hv,.tup [],[.list ys],rfl,rfl,rfl,.refl V,
  ⟨λk o x hx=>by rw[World.cell?_of_block (iJ k (World.block_lt_of_cell? w (a:=⟨k,o,none⟩) (ar.c k o x hx)) (ac4 k o x hx))];exact ar.c k o x hx,λk x hx=>(ar.m k x hx).keep (iJ k (ar.m k x hx).lt (aq0 k x hx)),ar.fz λk o x hx=>iJ k (World.block_lt_of_cell? w (a:=⟨k,o,none⟩) (ar.c k o x hx)) (ac4 k o x hx)⟩,
  ⟨eV.os,eV.tape,eV.output,eV.size,λk hk=>by omega⟩,λk hk hn=>iJ k hk (λe=>by subst e;rw[oI] at hn;cases hn),
  λk o x hx=>⟨.inl hx,λhc=>by rw[(dR k hc).2.2.1 o] at hx;cases hx⟩,λk x hx=>⟨.inl hx,λhc=>by rw[(dR k hc).2.2.2] at hx;cases hx⟩,λk hx=>absurd hx (bo k),λk j hk=>?_,λt sh hs hd=>?_,λj=>?_,
  .tup [] [] [] rfl rfl (λi t hi=>by simp at hi)⟩
 .by_cases ho:own k=some 0
  .obtain⟨g1,g2,g3,g4⟩:=bp k 0 ho;exact⟨g1,lu g2 eV.size,g3,g4,λ_ hn=>by rw[ho] at hn;cases hn⟩
  .simp[ho] at hk
 .match t,hs with
  |0,hs=>
   simp at hs;subst hs;exact⟨aX _,λ_=>ha0⟩
  |t+1,hs=>
   have:=cN.1 tB sh (kh (by simpa using hs));rw[hd] at this;cases this
 .show bY C _ _ V _ hv _ N j (bif Nat.beq 0 j then .row T e else .dead);cases hb:Nat.beq 0 j
  .trivial
  .have hj:=ay hb;subst hj;refine⟨F.toList.map enc,ys,rfl,?_,cU,λk hk=>?_⟩
   .rw[e1,hk,oQ];exact Cl
   .rw[e1] at hk;simp[Value.ownBlock] at hk;subst hk;simp[oI]
def SG {w:World}{g:Nat}{cur:Array Value}{T:TypeId}{F:Array Value}(hb:w.heap[g]?=some (.cells cur T (0,0)))(ht:cur.toList.take F.size=F.toList):Go.Sort.Holds id w g 0 F:=by
 intro j hj;refine⟨?_,by simp[World.frozen?,hb]⟩;have h1:(cur.toList.take F.size)[j]?=F.toList[j]?:=by rw[ht]
 rw[DV hj] at h1;simp only[World.cell?,hb,fw];simp only[Option.isSome_none,xE,if_false];rw[<-py,h1];simp[hj]
def ajn {key:D->Int}{xs:List D}{n:Nat}(h:xs.length=n+1):gM key xs=(pj key xs n).toList.map λi:Fin (n+1)=>xs.getD i .none:=by
 unfold gM;split
 .omega
 .rename_i m hm;obtain rfl:m=n:=by omega
  rfl
def QP {cap:Nat->Option CSig}{V:Im}{t:Ty}{v:Value}{f:Nat}{ds:List D}(h:Rep cap V t v (.clo f ds)):∃(vs:List Value) (cs:CSig),v=.func (.func f) #[] vs.toArray/\cap f=some cs/\vs.length=cs.caps.length/\ds.length=cs.caps.length/\∀(i:Nat) (t:Ty),cs.caps[i]?=some t->Rep cap V t (vs.getD i undef) (ds.getD i .none):=by
 cases h with
 |fn f cs vs ds h1 h2 h3 h4=>exact⟨vs,cs,rfl,h1,h2,h3,h4⟩
end Rm
namespace Go.Proofs
open Go.Shelf
def Tryz.lays189_ren:Go.Shelf.Ren:=⟨λ|189=>76|125=>72|257=>123|128=>120|129=>121|294=>164|295=>165|296=>166|297=>167|298=>168|299=>169|216=>170|300=>171|301=>172|328=>190|329=>152|330=>153|331=>191|332=>192|215=>143|343=>209|n=>n,λ|28=>60|3=>3|46=>147|0=>0|51=>192|53=>101|4=>4|183=>185|182=>184|131=>189|5=>5|9=>9|218=>220|222=>224|228=>250|229=>154|n=>n,λ|n=>n⟩
def Tryz.lays189:Go.Proofs.Lays.n189 Tryz.prog Tryz.lays189_ren:={
 mixed:=by kernel_rfl
 f125:=Tryz.func72.trans (congrArg some (by kernel_rfl))
 f128:=Tryz.func120.trans (congrArg some (by kernel_rfl))
 f129:=Tryz.func121.trans (congrArg some (by kernel_rfl))
 f189:=Tryz.func76.trans (congrArg some (by kernel_rfl))
 f215:=Tryz.func143.trans (congrArg some (by kernel_rfl))
 f216:=Tryz.func170.trans (congrArg some (by kernel_rfl))
 f257:=Tryz.func123.trans (congrArg some (by kernel_rfl))
 f294:=Tryz.func164.trans (congrArg some (by kernel_rfl))
 f295:=Tryz.func165.trans (congrArg some (by kernel_rfl))
 f296:=Tryz.func166.trans (congrArg some (by kernel_rfl))
 f297:=Tryz.func167.trans (congrArg some (by kernel_rfl))
 f298:=Tryz.func168.trans (congrArg some (by kernel_rfl))
 f299:=Tryz.func169.trans (congrArg some (by kernel_rfl))
 f300:=Tryz.func171.trans (congrArg some (by kernel_rfl))
 f301:=Tryz.func172.trans (congrArg some (by kernel_rfl))
 f328:=Tryz.func190.trans (congrArg some (by kernel_rfl))
 f329:=Tryz.func152.trans (congrArg some (by kernel_rfl))
 f330:=Tryz.func153.trans (congrArg some (by kernel_rfl))
 f331:=Tryz.func191.trans (congrArg some (by kernel_rfl))
 f332:=Tryz.func192.trans (congrArg some (by kernel_rfl))
 f343:=Tryz.func209.trans (congrArg some (by kernel_rfl))
 t0:=Tryz.underlying0
 a0:=Tryz.isAgg0
 z0:=Tryz.sizeOf0
 v0:=Tryz.zeroValue0
 t3:=Tryz.underlying3
 a3:=Tryz.isAgg3
 z3:=Tryz.sizeOf3
 v3:=Tryz.zeroValue3
 t4:=Tryz.underlying4
 a4:=Tryz.isAgg4
 z4:=Tryz.sizeOf4
 v4:=Tryz.zeroValue4
 t5:=Tryz.underlying5
 a5:=Tryz.isAgg5
 z5:=Tryz.sizeOf5
 v5:=Tryz.zeroValue5
 t9:=Tryz.underlying9
 a9:=Tryz.isAgg9
 z9:=Tryz.sizeOf9
 v9:=Tryz.zeroValue9
 t28:=Tryz.underlying60
 a28:=Tryz.isAgg60
 z28:=Tryz.sizeOf60
 v28:=Tryz.zeroValue60
 t46:=Tryz.underlying147
 a46:=Tryz.isAgg147
 z46:=Tryz.sizeOf147
 v46:=Tryz.zeroValue147
 t51:=Tryz.underlying192
 a51:=Tryz.isAgg192
 z51:=Tryz.sizeOf192
 v51:=Tryz.zeroValue192
 t53:=Tryz.underlying101
 a53:=Tryz.isAgg101
 z53:=Tryz.sizeOf101
 v53:=Tryz.zeroValue101
 t131:=Tryz.underlying189
 a131:=Tryz.isAgg189
 z131:=Tryz.sizeOf189
 v131:=Tryz.zeroValue189
 t182:=Tryz.underlying184
 a182:=Tryz.isAgg184
 z182:=Tryz.sizeOf184
 v182:=Tryz.zeroValue184
 t183:=Tryz.underlying185
 a183:=Tryz.isAgg185
 z183:=Tryz.sizeOf185
 v183:=Tryz.zeroValue185
 t218:=Tryz.underlying220
 a218:=Tryz.isAgg220
 z218:=Tryz.sizeOf220
 v218:=Tryz.zeroValue220
 t222:=Tryz.underlying224
 a222:=Tryz.isAgg224
 z222:=Tryz.sizeOf224
 v222:=Tryz.zeroValue224
 t228:=Tryz.underlying250
 a228:=Tryz.isAgg250
 z228:=Tryz.sizeOf250
 v228:=Tryz.zeroValue250
 t229:=Tryz.underlying154
 a229:=Tryz.isAgg154
 z229:=Tryz.sizeOf154
 v229:=Tryz.zeroValue154}
open Go.Sort Go.RowKit in
def Tryz.slices_Sort_int (iV off cap:Nat)(zs:List Int)(w:World)(hH:Holds (Value.int .i64) w iV off zs.toArray)(hblk:iV<w.heap.size)(aI:zs.length<4611686018427387904):
 Calls Tryz.prog 76 #[.slice (some ⟨iV,off,none⟩) zs.length cap] w λe w'=>
  e=.returned (.tuple #[])/\∃n os,w'=grow (putRow (Value.int .i64) (Sort.ahead w n) iV off (zs.mergeSort λx y=>decide (x<=y)).toArray) os:=Any.slices_Sort_int Tryz.lays189 iV off cap zs w hH hblk aI
def Tryz.laysNm215_ren:Go.Shelf.Ren:=⟨λ|15=>73|n=>n,λ|22=>60|3=>3|4=>4|n=>n,λ|n=>n⟩
def Tryz.laysNm215:Go.Proofs.Lays2.n15 Tryz.prog Tryz.laysNm215_ren:={
 mixed:=by kernel_rfl
 f15:=Tryz.func73.trans (congrArg some (by kernel_rfl))
 t3:=Tryz.underlying3
 a3:=Tryz.isAgg3
 z3:=Tryz.sizeOf3
 v3:=Tryz.zeroValue3
 t4:=Tryz.underlying4
 a4:=Tryz.isAgg4
 z4:=Tryz.sizeOf4
 v4:=Tryz.zeroValue4
 t22:=Tryz.underlying60
 a22:=Tryz.isAgg60
 z22:=Tryz.sizeOf60
 v22:=Tryz.zeroValue60
 i3:=by kernel_rfl}
open Go.RowKit Go.Lib in
def Tryz.slices_Clone_int_nil (n c:Nat)(w:World):
 Calls Tryz.prog 73 #[.slice none n c] w λe w'=>e=.returned (.slice none 0 0)/\w'=w:=Any.slices_Clone_int_nil Tryz.laysNm215 n c w
open Go.RowKit Go.Lib in
def Tryz.slices_Clone_int_zero (a:Addr)(c:Nat)(w:World):
 Calls Tryz.prog 73 #[.slice (some a) 0 c] w λe w'=>∃v',e=.returned v'/\w'.ownsRow w.heap.size 3 1 v' 0 []/\v'≠.slice none 0 0/\Below w.heap.size w w':=Any.slices_Clone_int_zero Tryz.laysNm215 a c w
open Go.RowKit Go.Lib in
def Tryz.slices_Clone_int (b off n c:Nat)(zs:List Int)(w:World)(hz:n<=zs.length)(LA:n*8<=140737488355328)(hc:∀j,j<zs.length->w.cell? ⟨b,off+j,none⟩=some (.int .i64 (zs.getD j 0))):
 Calls Tryz.prog 73 #[.slice (some ⟨b,off,none⟩) n c] w λe w'=>∃v',e=.returned v'/\w'.ownsRow w.heap.size 3 1 v' n ((zs.take n).map (Value.int .i64))/\v'≠.slice none 0 0/\Below w.heap.size w w':=Any.slices_Clone_int Tryz.laysNm215 b off n c zs w hz LA hc
def Tryz.laysNm220_ren:Go.Shelf.Ren:=⟨λ|20=>77|n=>n,λ|22=>60|3=>3|4=>4|0=>0|n=>n,λ|n=>n⟩
def Tryz.laysNm220:Go.Proofs.Lays2.n20 Tryz.prog Tryz.laysNm220_ren:={
 mixed:=by kernel_rfl
 f20:=Tryz.func77.trans (congrArg some (by kernel_rfl))
 t0:=Tryz.underlying0
 a0:=Tryz.isAgg0
 z0:=Tryz.sizeOf0
 v0:=Tryz.zeroValue0
 t3:=Tryz.underlying3
 a3:=Tryz.isAgg3
 z3:=Tryz.sizeOf3
 v3:=Tryz.zeroValue3
 t4:=Tryz.underlying4
 a4:=Tryz.isAgg4
 z4:=Tryz.sizeOf4
 v4:=Tryz.zeroValue4
 t22:=Tryz.underlying60
 a22:=Tryz.isAgg60
 z22:=Tryz.sizeOf60
 v22:=Tryz.zeroValue60
 i3:=by kernel_rfl}
open Go.RowKit Go.Lib Go.Sort in
def Tryz.slices_Compact_int_empty (a:Option Addr)(cap:Nat)(w:World):
 Calls Tryz.prog 77 #[.slice a 0 cap] w λe w'=>e=.returned (.slice a 0 cap)/\w'=w:=Any.slices_Compact_int_empty Tryz.laysNm220 a cap w
open Go.RowKit Go.Sort in
def Tryz.slices_Sort_int_none (p:Option Addr)(cap:Nat)(w:World):
 Calls Tryz.prog 76 #[.slice p 0 cap] w λe w'=>e=.returned (.tuple #[])/\w'=w:=Any.slices_Sort_int_none Tryz.lays189 p cap w
open Go.RowKit Go.Lib Go.Sort in
def Tryz.slices_Compact_int (iV off cap:Nat)(zs:List Int)(w:World)(hH:Holds (Value.int .i64) w iV off zs.toArray)(aI:zs.length<=9223372036854775807)(eU:zs.length<=cap):
 Calls Tryz.prog 77 #[.slice (some ⟨iV,off,none⟩) zs.length cap] w λe w'=>e=.returned (.slice (some ⟨iV,off,none⟩) (Lib.compact zs).length cap)/\∃q,w'=putRow (Value.int .i64) (Sort.ahead w q) iV off (Lib.compact zs++List.replicate (zs.length-(Lib.compact zs).length) 0).toArray:=Any.slices_Compact_int Tryz.laysNm220 iV off cap zs w hH aI eU
def Tryz.laysSlF6_f61_ren:Go.Shelf.Ren:=⟨λ|6=>74|15=>72|14=>122|28=>120|29=>121|20=>156|21=>157|22=>158|23=>159|24=>160|25=>161|26=>162|27=>163|46=>187|47=>152|48=>153|49=>188|50=>189|57=>208|n=>n,λ|22=>60|24=>3|25=>150|3=>3|39=>147|0=>0|53=>192|55=>101|4=>4|46=>185|45=>184|50=>189|5=>5|9=>9|66=>220|70=>224|76=>250|77=>154|n=>n,λ|n=>n⟩
def Tryz.laysSlF6_f61:Go.Proofs.SlLaysF.n6 Tryz.prog Tryz.laysSlF6_f61_ren:={
 mixed:=by kernel_rfl
 f6:=⟨Tryz.f74.name,by decide,Tryz.func74.trans (congrArg some (by kernel_rfl))⟩
 f14:=⟨Tryz.f122.name,by decide,Tryz.func122.trans (congrArg some (by kernel_rfl))⟩
 f15:=Tryz.func72.trans (congrArg some (by kernel_rfl))
 f20:=⟨Tryz.f156.name,by decide,Tryz.func156.trans (congrArg some (by kernel_rfl))⟩
 f21:=⟨Tryz.f157.name,by decide,Tryz.func157.trans (congrArg some (by kernel_rfl))⟩
 f22:=⟨Tryz.f158.name,by decide,Tryz.func158.trans (congrArg some (by kernel_rfl))⟩
 f23:=⟨Tryz.f159.name,by decide,Tryz.func159.trans (congrArg some (by kernel_rfl))⟩
 f24:=⟨Tryz.f160.name,by decide,Tryz.func160.trans (congrArg some (by kernel_rfl))⟩
 f25:=⟨Tryz.f161.name,by decide,Tryz.func161.trans (congrArg some (by kernel_rfl))⟩
 f26:=⟨Tryz.f162.name,by decide,Tryz.func162.trans (congrArg some (by kernel_rfl))⟩
 f27:=⟨Tryz.f163.name,by decide,Tryz.func163.trans (congrArg some (by kernel_rfl))⟩
 f28:=Tryz.func120.trans (congrArg some (by kernel_rfl))
 f29:=Tryz.func121.trans (congrArg some (by kernel_rfl))
 f46:=⟨Tryz.f187.name,by decide,Tryz.func187.trans (congrArg some (by kernel_rfl))⟩
 f47:=Tryz.func152.trans (congrArg some (by kernel_rfl))
 f48:=Tryz.func153.trans (congrArg some (by kernel_rfl))
 f49:=⟨Tryz.f188.name,by decide,Tryz.func188.trans (congrArg some (by kernel_rfl))⟩
 f50:=⟨Tryz.f189.name,by decide,Tryz.func189.trans (congrArg some (by kernel_rfl))⟩
 f57:=⟨Tryz.f208.name,by decide,Tryz.func208.trans (congrArg some (by kernel_rfl))⟩
 t0:=Tryz.underlying0
 a0:=Tryz.isAgg0
 z0:=Tryz.sizeOf0
 v0:=Tryz.zeroValue0
 t3:=Tryz.underlying3
 a3:=Tryz.isAgg3
 z3:=Tryz.sizeOf3
 v3:=Tryz.zeroValue3
 t4:=Tryz.underlying4
 a4:=Tryz.isAgg4
 z4:=Tryz.sizeOf4
 v4:=Tryz.zeroValue4
 t5:=Tryz.underlying5
 a5:=Tryz.isAgg5
 z5:=Tryz.sizeOf5
 v5:=Tryz.zeroValue5
 t9:=Tryz.underlying9
 a9:=Tryz.isAgg9
 z9:=Tryz.sizeOf9
 v9:=Tryz.zeroValue9
 t22:=Tryz.underlying60
 a22:=Tryz.isAgg60
 z22:=Tryz.sizeOf60
 v22:=Tryz.zeroValue60
 a24:=Tryz.isAgg3
 z24:=Tryz.sizeOf3
 t25:=Tryz.underlying150
 a25:=Tryz.isAgg150
 z25:=Tryz.sizeOf150
 v25:=Tryz.zeroValue150
 t39:=Tryz.underlying147
 a39:=Tryz.isAgg147
 z39:=Tryz.sizeOf147
 v39:=Tryz.zeroValue147
 t45:=Tryz.underlying184
 a45:=Tryz.isAgg184
 z45:=Tryz.sizeOf184
 v45:=Tryz.zeroValue184
 t46:=Tryz.underlying185
 a46:=Tryz.isAgg185
 z46:=Tryz.sizeOf185
 v46:=Tryz.zeroValue185
 t50:=Tryz.underlying189
 a50:=Tryz.isAgg189
 z50:=Tryz.sizeOf189
 v50:=Tryz.zeroValue189
 t53:=Tryz.underlying192
 a53:=Tryz.isAgg192
 z53:=Tryz.sizeOf192
 v53:=Tryz.zeroValue192
 t55:=Tryz.underlying101
 a55:=Tryz.isAgg101
 z55:=Tryz.sizeOf101
 v55:=Tryz.zeroValue101
 t66:=Tryz.underlying220
 a66:=Tryz.isAgg220
 z66:=Tryz.sizeOf220
 v66:=Tryz.zeroValue220
 t70:=Tryz.underlying224
 a70:=Tryz.isAgg224
 z70:=Tryz.sizeOf224
 v70:=Tryz.zeroValue224
 t76:=Tryz.underlying250
 a76:=Tryz.isAgg250
 z76:=Tryz.sizeOf250
 v76:=Tryz.zeroValue250
 t77:=Tryz.underlying154
 a77:=Tryz.isAgg154
 z77:=Tryz.sizeOf154
 v77:=Tryz.zeroValue154}
def Tryz.sortE_ren:Go.Shelf.Ren:=⟨λ|6=>34|15=>72|14=>71|28=>120|29=>121|20=>112|21=>113|22=>114|23=>115|24=>116|25=>117|26=>118|27=>119|46=>151|47=>152|48=>153|49=>154|50=>155|57=>186|n=>n,λ|22=>55|24=>59|25=>94|3=>3|39=>147|0=>0|53=>192|55=>101|4=>4|46=>185|45=>184|50=>189|5=>5|9=>9|66=>220|70=>224|76=>250|77=>154|n=>n,λ|n=>n⟩
def Tryz.sortE:Go.Proofs.SlLaysF0.n6 Tryz.prog Tryz.sortE_ren:={
 mixed:=by kernel_rfl
 f6:=⟨Tryz.f34.name,by decide,Tryz.func34.trans (congrArg some (by kernel_rfl))⟩
 f14:=⟨Tryz.f71.name,by decide,Tryz.func71.trans (congrArg some (by kernel_rfl))⟩
 f15:=Tryz.func72.trans (congrArg some (by kernel_rfl))
 f20:=⟨Tryz.f112.name,by decide,Tryz.func112.trans (congrArg some (by kernel_rfl))⟩
 f21:=⟨Tryz.f113.name,by decide,Tryz.func113.trans (congrArg some (by kernel_rfl))⟩
 f22:=⟨Tryz.f114.name,by decide,Tryz.func114.trans (congrArg some (by kernel_rfl))⟩
 f23:=⟨Tryz.f115.name,by decide,Tryz.func115.trans (congrArg some (by kernel_rfl))⟩
 f24:=⟨Tryz.f116.name,by decide,Tryz.func116.trans (congrArg some (by kernel_rfl))⟩
 f25:=⟨Tryz.f117.name,by decide,Tryz.func117.trans (congrArg some (by kernel_rfl))⟩
 f26:=⟨Tryz.f118.name,by decide,Tryz.func118.trans (congrArg some (by kernel_rfl))⟩
 f27:=⟨Tryz.f119.name,by decide,Tryz.func119.trans (congrArg some (by kernel_rfl))⟩
 f28:=Tryz.func120.trans (congrArg some (by kernel_rfl))
 f29:=Tryz.func121.trans (congrArg some (by kernel_rfl))
 f46:=⟨Tryz.f151.name,by decide,Tryz.func151.trans (congrArg some (by kernel_rfl))⟩
 f47:=Tryz.func152.trans (congrArg some (by kernel_rfl))
 f48:=Tryz.func153.trans (congrArg some (by kernel_rfl))
 f49:=⟨Tryz.f154.name,by decide,Tryz.func154.trans (congrArg some (by kernel_rfl))⟩
 f50:=⟨Tryz.f155.name,by decide,Tryz.func155.trans (congrArg some (by kernel_rfl))⟩
 f57:=⟨Tryz.f186.name,by decide,Tryz.func186.trans (congrArg some (by kernel_rfl))⟩
 t0:=Tryz.underlying0
 a0:=Tryz.isAgg0
 z0:=Tryz.sizeOf0
 v0:=Tryz.zeroValue0
 t3:=Tryz.underlying3
 a3:=Tryz.isAgg3
 z3:=Tryz.sizeOf3
 v3:=Tryz.zeroValue3
 t4:=Tryz.underlying4
 a4:=Tryz.isAgg4
 z4:=Tryz.sizeOf4
 v4:=Tryz.zeroValue4
 t5:=Tryz.underlying5
 a5:=Tryz.isAgg5
 z5:=Tryz.sizeOf5
 v5:=Tryz.zeroValue5
 t9:=Tryz.underlying9
 a9:=Tryz.isAgg9
 z9:=Tryz.sizeOf9
 v9:=Tryz.zeroValue9
 t22:=Tryz.underlying55
 a22:=Tryz.isAgg55
 z22:=Tryz.sizeOf55
 v22:=Tryz.zeroValue55
 t25:=Tryz.underlying94
 a25:=Tryz.isAgg94
 z25:=Tryz.sizeOf94
 v25:=Tryz.zeroValue94
 t39:=Tryz.underlying147
 a39:=Tryz.isAgg147
 z39:=Tryz.sizeOf147
 v39:=Tryz.zeroValue147
 t45:=Tryz.underlying184
 a45:=Tryz.isAgg184
 z45:=Tryz.sizeOf184
 v45:=Tryz.zeroValue184
 t46:=Tryz.underlying185
 a46:=Tryz.isAgg185
 z46:=Tryz.sizeOf185
 v46:=Tryz.zeroValue185
 t50:=Tryz.underlying189
 a50:=Tryz.isAgg189
 z50:=Tryz.sizeOf189
 v50:=Tryz.zeroValue189
 t53:=Tryz.underlying192
 a53:=Tryz.isAgg192
 z53:=Tryz.sizeOf192
 v53:=Tryz.zeroValue192
 t55:=Tryz.underlying101
 a55:=Tryz.isAgg101
 z55:=Tryz.sizeOf101
 v55:=Tryz.zeroValue101
 t66:=Tryz.underlying220
 a66:=Tryz.isAgg220
 z66:=Tryz.sizeOf220
 v66:=Tryz.zeroValue220
 t70:=Tryz.underlying224
 a70:=Tryz.isAgg224
 z70:=Tryz.sizeOf224
 v70:=Tryz.zeroValue224
 t76:=Tryz.underlying250
 a76:=Tryz.isAgg250
 z76:=Tryz.sizeOf250
 v76:=Tryz.zeroValue250
 t77:=Tryz.underlying154
 a77:=Tryz.isAgg154
 z77:=Tryz.sizeOf154
 v77:=Tryz.zeroValue154}
def Tryz.ixE_ren:Go.Shelf.Ren:=⟨λ|6=>111|n=>n,λ|22=>55|23=>59|25=>57|3=>3|0=>0|4=>4|n=>n,λ|n=>n⟩
def Tryz.ixE:Go.Proofs.SlLaysH0.n6 Tryz.prog Tryz.ixE_ren:={
 mixed:=by kernel_rfl
 f6:=⟨Tryz.f111.name,by decide,Tryz.func111.trans (congrArg some (by kernel_rfl))⟩
 t0:=Tryz.underlying0
 a0:=Tryz.isAgg0
 z0:=Tryz.sizeOf0
 v0:=Tryz.zeroValue0
 t3:=Tryz.underlying3
 a3:=Tryz.isAgg3
 z3:=Tryz.sizeOf3
 v3:=Tryz.zeroValue3
 t4:=Tryz.underlying4
 a4:=Tryz.isAgg4
 z4:=Tryz.sizeOf4
 v4:=Tryz.zeroValue4
 t22:=Tryz.underlying55
 a22:=Tryz.isAgg55
 z22:=Tryz.sizeOf55
 v22:=Tryz.zeroValue55
 t25:=Tryz.underlying57
 a25:=Tryz.isAgg57
 z25:=Tryz.sizeOf57
 v25:=Tryz.zeroValue57}
def Tryz.clone26_ren:Go.Shelf.Ren:=⟨λ|41=>26|n=>n,λ|22=>36|23=>46|4=>4|n=>n,λ|n=>n⟩
def Tryz.clone26:Go.Proofs.SlLaysE0.n41 Tryz.prog Tryz.clone26_ren:={
 mixed:=by kernel_rfl
 f41:=⟨Tryz.f26.name,by decide,Tryz.func26.trans (congrArg some (by kernel_rfl))⟩
 t4:=Tryz.underlying4
 a4:=Tryz.isAgg4
 z4:=Tryz.sizeOf4
 v4:=Tryz.zeroValue4
 t22:=Tryz.underlying36
 a22:=Tryz.isAgg36
 z22:=Tryz.sizeOf36
 v22:=Tryz.zeroValue36}
def Tryz.clone27_ren:Go.Shelf.Ren:=⟨λ|41=>27|n=>n,λ|22=>37|23=>83|4=>4|n=>n,λ|n=>n⟩
def Tryz.clone27:Go.Proofs.SlLaysE0.n41 Tryz.prog Tryz.clone27_ren:={
 mixed:=by kernel_rfl
 f41:=⟨Tryz.f27.name,by decide,Tryz.func27.trans (congrArg some (by kernel_rfl))⟩
 t4:=Tryz.underlying4
 a4:=Tryz.isAgg4
 z4:=Tryz.sizeOf4
 v4:=Tryz.zeroValue4
 t22:=Tryz.underlying37
 a22:=Tryz.isAgg37
 z22:=Tryz.sizeOf37
 v22:=Tryz.zeroValue37}
def Tryz.clone28_ren:Go.Shelf.Ren:=⟨λ|41=>28|n=>n,λ|22=>38|23=>86|4=>4|n=>n,λ|n=>n⟩
def Tryz.clone28:Go.Proofs.SlLaysE0.n41 Tryz.prog Tryz.clone28_ren:={
 mixed:=by kernel_rfl
 f41:=⟨Tryz.f28.name,by decide,Tryz.func28.trans (congrArg some (by kernel_rfl))⟩
 t4:=Tryz.underlying4
 a4:=Tryz.isAgg4
 z4:=Tryz.sizeOf4
 v4:=Tryz.zeroValue4
 t22:=Tryz.underlying38
 a22:=Tryz.isAgg38
 z22:=Tryz.sizeOf38
 v22:=Tryz.zeroValue38}
def Tryz.clone29_ren:Go.Shelf.Ren:=⟨λ|41=>29|n=>n,λ|22=>39|23=>89|4=>4|n=>n,λ|n=>n⟩
def Tryz.clone29:Go.Proofs.SlLaysE0.n41 Tryz.prog Tryz.clone29_ren:={
 mixed:=by kernel_rfl
 f41:=⟨Tryz.f29.name,by decide,Tryz.func29.trans (congrArg some (by kernel_rfl))⟩
 t4:=Tryz.underlying4
 a4:=Tryz.isAgg4
 z4:=Tryz.sizeOf4
 v4:=Tryz.zeroValue4
 t22:=Tryz.underlying39
 a22:=Tryz.isAgg39
 z22:=Tryz.sizeOf39
 v22:=Tryz.zeroValue39}
end Go.Proofs
namespace Rm
open Go Go.Proofs Cx Go.RowKit Go.Sort
def gN (d:D):Int:=(d.c 5).i
def CM (d:D):Bool:=decide (0<=gN d)&&decide (gN d<=1099511627776)
def OB (ds:List D):Option D:=
 match ds with
 |[_,.clo f [],.list xs]=>if f=35/\xs.length<=4294967296/\xs.all CM=true then some (.tup [.tup [],.list (gM gN xs)]) else none
 |_=>none
set_option maxHeartbeats 1000000 in
def aAG (a0 a1 a2 a3 a4 a5 b0 b1 b2 b3 b4 b5:Int)(a6 b6:Bool)(hs:IntKind.i64.wrap (a5-b5)=a5-b5)(W:World):
 Calls Tryz.prog 35 #[.agg #[.int .i64 a0,.int .i64 a1,.int .i64 a2,.int .i64 a3,.int .i64 a4,.int .i64 a5,.bool a6],.agg #[.int .i64 b0,.int .i64 b1,.int .i64 b2,.int .i64 b3,.int .i64 b4,.int .i64 b5,.bool b6]] W λe w'=>e=.returned (.int .i64 (a5-b5))/\∃q nq,w'=grow (W.drewN q) nq:=by
 go_enter Tryz.func35,Tryz.ntmps35
 go_wp2
 go_ret
 exact⟨rfl,0,_,by rw[alloc_eq_grow,alloc_eq_grow,grow_grow];rfl⟩
def al5 {xs:List D}{n:Nat}(aK:xs.all CM=true)(hn:xs.length=n+1)(iV off size:Nat)(w:World):
 CmpLays Tryz.prog 35 #[] (λi:Fin (n+1)=>bR (xs.getD i .none)) 7 (λi j=>gN (xs.getD i .none)-gN (xs.getD j .none)) iV off size w:=by
 intro m os dk hs x y
 have hr:∀i:Fin (n+1),0<=gN (xs.getD i .none)/\gN (xs.getD i .none)<=1099511627776:=λi=>by
  have hi:(i:Nat)<xs.length:=by rw[hn];exact i.2
  have:=cN.1 aK _ (bU hi);rw[aE,aU hi];simpa [CM] using this
 have h1:=hr x;have h2:=hr y;exact aAG _ _ _ _ _ _ _ _ _ _ _ _ _ _ (aQ (by unfold gN at*;omega)) _
def axj (ds:List D)(d:D)(h:OB ds=some d):ej ctx 34 [.obj 0 0,.dat (.fn [tE,tE] tI)] [(0,.row 59 tE)] (.tup []) ds d:=by
 refine ej.of (by simp) ?_;unfold OB at h;split at h
 case h_2=>cases h
 rename_i d0 f xs;split at h
 case isFalse=>cases h
 rename_i hc;obtain⟨rfl,hlen,aK⟩:=hc;cases h;intro N V own hv w args cx F5 ar hC bo hN aI bp dR h1 h2;obtain⟨v,u,rfl⟩:∃v u,args=#[v,u]:=by
  match args,aI with
  |⟨[v,u]⟩,_=>exact⟨v,u,rfl⟩
 have eF:v=hv 0:=(h1 0).2 rfl;have hu:Rep ctx.cap V (.fn [tE,tE] tI) u (.clo 35 []):=h1 1;obtain rfl:u=.func (.func 35) #[] #[]:=by
  obtain⟨vs,cs,rfl,_,k1,k2,_⟩:=QP hu;have:vs=[]:=vz.1 (by rw[k1,<-k2];rfl);rw[this]
 obtain⟨cells,fc,hx,cW,cU,ja⟩:=h2 0;have hx:D.list xs=D.list fc:=hx;cases hx;obtain⟨aY,hE⟩:=abZ cW.1 cU;by_cases h0:xs=[]
 .subst h0;obtain⟨p,cap,e1⟩:∃p cap,hv 0=.slice p 0 cap:=by
   rcases cW.2 with⟨e,_⟩|⟨g,cap,cur,e,_⟩
   .exact⟨_,_,e⟩
   .exact⟨_,_,e⟩
  rw[eF,e1];refine(AnyF.slices_SortFunc_none Tryz.sortE p cap _ w).mono λe w' hh=>?_;obtain⟨rfl,rfl⟩:=hh
  refine⟨.tuple #[],V,own,hv,.tup [],[.list []],rfl,rfl,rfl,.refl V,ar,.refl _ _,λk hk _=>rfl,
   λk o x hx=>⟨.inl hx,λhc=>by rw[(dR k hc).2.2.1 o] at hx;cases hx⟩,λk x hx=>⟨.inl hx,λhc=>by rw[(dR k hc).2.2.2] at hx;cases hx⟩,λk hx=>absurd hx (bo k),
   λk j hk=>by obtain⟨g1,g2,g3,g4⟩:=bp k j hk;exact⟨g1,g2,g3,g4,λ_ hn=>by rw[hk] at hn;cases hn⟩,λt sh hs hd=>?_,λj=>?_,.tup [] [] [] rfl rfl (λi t hi=>by simp at hi)⟩
  .match t,hs with
   |0,hs=>simp at hs;subst hs;exact⟨aX _,λ_=>by simp[e1]⟩
   |1,hs=>simp at hs;subst hs;cases hd
   |t+2,hs=>simp at hs
  .exact h2 j
 obtain⟨n,hn⟩:∃n,xs.length=n+1:=⟨xs.length-1,by have:=xO.2 h0;omega⟩
 rcases cW.2 with⟨_,h0⟩|⟨g,cap,cur,e1,e2,e3,e4,e5,e6,e7⟩
 .omega
 have hg:g<w.heap.size:=(ed.1 e3).1;have oI:own g=some 0:=ja g (by rw[e1];rfl);have Sa:∀i:Fin (n+1),(bR (xs.getD i .none)).length=7:=λ_=>rfl
 have hH:HoldsK (λi:Fin (n+1)=>bR (xs.getD i .none)) 7 w g 0 (Array.ofFn id):=by
  refine SG e3 ?_;rw[BS Sa,size_flatK,aag,show(n+1)*7=xs.length*tE.size by rw[hn];rfl,e7,aY];have:=afN hn
  conv=>lhs;rw[<-this]
  rw[List.flatMap_map]
 have cY:=AnyQ.slices_SortFunc_eq Tryz.sortE 7 Tryz.isAgg59 Tryz.sizeOf59 (λi:Fin (n+1)=>bR (xs.getD i .none)) Sa
  (λi v hv=>anw [xs.getD i .none] v (by simpa using hv)) (λi j=>gN (xs.getD i .none)-gN (xs.getD j .none)) (Xb gN xs (n+1)) 35 #[] g 0 cap (Array.ofFn id) w
  (enters_of Tryz.func35 (by kernel_rfl) rfl) (al5 aK hn _ _ _ w) hH hg (by simp;omega)
 change Calls Tryz.prog 34 _ _ _ at cY;simp only[aag] at cY;have mV:hv 0=.slice (some ⟨g,0,none⟩) (n+1) cap:=by rw[e1,hn]
 rw[eF,mV];refine cY.mono λe w' hh=>?_;obtain⟨rfl,m,os,rfl⟩:=hh;have wv:=OD gN xs n;have oQ:(gM gN xs).length=xs.length:=(sE gN xs).length_eq;refine WO (C:=ctx) (k:=7) (rest:=[.dat (.fn [tE,tE] tI)]) (enc:=id) (F:=flatK (λi:Fin (n+1)=>bR (xs.getD i .none)) 7 (pj gN xs n)) rfl ar bo bp dR mV e2 e3 (by rw[<-hn];exact e4) e5 e6 oI (by rw[oQ,hn]) (by rw[size_flatK,wv]) ?_ (by simp[mV]) rfl;rw[xP,BS Sa]
 have e:(pj gN xs n).toList.flatMap (λi:Fin (n+1)=>bR (xs.getD i .none))=(gM gN xs).flatMap bR:=by
  rw[ajn hn,List.flatMap_map]
 rw[e];exact ab0 λx hx=>hE x ((sE gN xs).mem_iff.1 hx)
end Rm
namespace Rm
open Go Cx
def zb (x:Int):List Int->List Int
 |[]=>[x]
 |y::l=>if x<=y then x::y::l else y::zb x l
def lL:List Int->List Int
 |[]=>[]
 |x::l=>zb x (lL l)
def Tq (x:Int):∀l,(zb x l).Perm (x::l)
 |[]=>.refl _
 |y::l=>by
  unfold zb;split
  .exact .refl _
  .exact((Tq x l).cons y).trans (.swap x y l)
def Gu:∀l,(lL l).Perm l
 |[]=>.refl _
 |x::l=>(Tq x _).trans ((Gu l).cons x)
def aep (x:Int):∀{l:List Int},l.Pairwise (·<=·)->(zb x l).Pairwise (·<=·)
 |[],_=>by simp[zb]
 |y::l,h=>by
  have h':=xS.1 h;unfold zb;split
  .rename_i Tl;refine xS.2 ⟨λz hz=>?_,h⟩;rcases cB.1 hz with rfl|hz
   .exact Tl
   .exact xJ Tl (h'.1 z hz)
  .rename_i Tl;refine xS.2 ⟨λz hz=>?_,aep x h'.2⟩;rcases cB.1 ((Tq x l).mem_iff.1 hz) with rfl|hz
   .omega
   .exact h'.1 z hz
def Mj:∀l,(lL l).Pairwise (·<=·)
 |[]=>.nil
 |x::l=>aep x (Mj l)
def ass (l:List Int):(l.mergeSort λx y=>decide (x<=y))=lL l:=by
 have h1:(l.mergeSort λx y=>decide (x<=y)).Pairwise (λx y=>decide (x<=y)=true):=List.pairwise_mergeSort (λa b c h1 h2=>by simp at*;omega) (λa b=>by simp;omega) l;refine List.Perm.eq_of_pairwise (le:=(·<=·)) (λa b _ _ h1 h2=>by omega) (h1.imp λh=>by simpa using h) (Mj l) ((List.mergeSort_perm l _).trans (Gu l).symm)
def Mi (l:List Int):(lL l).length=l.length:=(Gu l).length_eq
def ast {l:List Int}{x:Int}:x∈lL l↔x∈l:=(Gu l).mem_iff
def rj (l:List Int)(k:Nat):List Int:=((List.range k).filter λj=>decide (j=0\/l.getD j 0≠l.getD (j-1) 0)).map λj=>l.getD j 0
def ko (l:List Int):List Int:=rj l l.length
def amw (l:List Int)(k:Nat):rj l (k+1)=rj l k++if k=0\/l.getD k 0≠l.getD (k-1) 0 then[l.getD k 0] else[]:=by
 unfold rj;rw[I5,DS,nR]
 congr 1
 have key:∀(p:Nat->Bool),List.filter p [k]=if p k then[k] else[]:=λp=>by
  cases h:p k<;>simp[List.filter,h]
 rw[key];by_cases h:k=0\/l.getD k 0≠l.getD (k-1) 0
 .rw[if_pos h,if_pos (decide_eq_true h)];rfl
 .rw[if_neg h,if_neg (by simpa using h)];rfl
def QY (l:List Int)(hs:l.Pairwise (·<=·)):∀k,k<=l.length->(∀x,x∈rj l k↔∃j,j<k/\l.getD j 0=x)/\(rj l k).Pairwise (·<·)
 |0,_=>by simp[rj]
 |k+1,hk=>by
  obtain⟨h1,h2⟩:=QY l hs k (by omega)
  have hle:∀i j,i<=j->j<l.length->l.getD i 0<=l.getD j 0:=λi j dw hj=>by
   have hi:i<l.length:=by omega
   rw[aE,aE,aU hi,aU hj];by_cases e:i=j
   .subst e;exact nO _
   .exact I3.1 hs i j hi hj (by omega)
  rw[amw];by_cases hc:k=0\/l.getD k 0≠l.getD (k-1) 0
  .rw[if_pos hc];refine⟨λx=>?_,Pq.2 ⟨h2,by simp,λa ha b hb=>?_⟩⟩
   .rw[dC,h1,vA];constructor
    .rintro(⟨j,hj,e⟩|e)
     .exact⟨j,by omega,e⟩
     .exact⟨k,by omega,e.symm⟩
    .rintro⟨j,hj,e⟩;by_cases mY:j=k
     .subst mY;exact .inr e.symm
     .exact .inl ⟨j,by omega,e⟩
   .rw[vA] at hb;subst hb;obtain⟨j,hj,rfl⟩:=(h1 a).1 ha;have a1:=hle j (k-1) (by omega) (by omega);have a2:=hle (k-1) k (by omega) (by omega);rcases hc with hc|hc<;>omega
  .rw[if_neg hc,um];refine⟨λx=>?_,h2⟩;rw[h1];constructor
   .rintro⟨j,hj,e⟩;exact⟨j,by omega,e⟩
   .rintro⟨j,hj,e⟩;by_cases mY:j=k
    .subst mY;exact⟨j-1,by omega,by rw[<-e];omega⟩
    .exact⟨j,by omega,e⟩
def amx {l:List Int}(hs:l.Pairwise (·<=·)){x:Int}:x∈ko l↔x∈l:=by
 rw[ko,(QY l hs l.length (aX _)).1,List.mem_iff_getElem];constructor
 .rintro⟨j,hj,e⟩;exact⟨j,hj,by rw[<-e,aE,aU hj];rfl⟩
 .rintro⟨j,hj,e⟩;exact⟨j,hj,by rw[<-e,aE,aU hj];rfl⟩
def amy {l:List Int}(hs:l.Pairwise (·<=·)):(ko l).Pairwise (·<·):=(QY l hs l.length (aX _)).2
def abJ (l:List Int)(k:Nat):(rj l k).length<=k:=by
 unfold rj;rw[ef];exact gm (pA _ _) (by simp)
end Rm
namespace Rm
open Go Go.Proofs Cx Go.RowKit
def ajp (ds:List D):Option D:=
 match ds with
 |[_,.list xs]=>if 0<xs.length/\xs.length<=4294967296 then some (.tup [.tup [],ints (lL (xs.map D.i))]) else none
 |_=>none
def IA (ds:List D):Option D:=
 match ds with
 |[_,.list xs]=>if xs.length<=4294967296 then some (.tup [.tup [],ints (lL (xs.map D.i))]) else none
 |_=>none
def Tr {cap:Nat->Option CSig}{V:Im}{cells:List Value}{xs:List D}(hl:cells.length=xs.length*1)(h:dh cap V (.int .i64) cells xs):cells=(xs.map D.i).map (Value.int .i64)/\∀x,x∈xs.map D.i->(IntKind.i64).min<=x/\x<=(IntKind.i64).max:=by
 obtain⟨vs,bI,RU⟩:=h
 have Cg:∀i (hi:i<xs.length),∃n,xs[i]=.int n/\vs i=.int .i64 n/\(IntKind.i64).min<=n/\n<=(IntKind.i64).max:=λi hi=>by
  obtain⟨n,e1,e2,e3,e4⟩:=(bI i _ (aU hi)).int_inv;exact⟨n,e2,e1,e3,e4⟩
 constructor
 .apply vx;intro i;by_cases hi:i<xs.length
  .obtain⟨n,e1,e2,_⟩:=Cg i hi;have:=RU i 0 (.int .i64 n) hi (by rw[e2];rfl);have e3:i*(Ty.int .i64).size+0=i:=by simp[Ty.size]
   rw[e3] at this;rw[this,bX,bX,aU hi,e1];rfl
  .rw[kg (by omega),kg (by simp;omega)]
 .intro x hx;obtain⟨y,hy,rfl⟩:=cr.1 hx;obtain⟨q,hq,rfl⟩:=ew hy;obtain⟨n,f1,f2,f3,f4⟩:=Cg q hq;rw[f1];exact⟨f3,f4⟩
def Mk {cap:Nat->Option CSig}{V:Im}{l:List Int}(h:∀x,x∈l->(IntKind.i64).min<=x/\x<=(IntKind.i64).max):dh cap V (.int .i64) (l.map (Value.int .i64)) (l.map D.int):=by
 refine⟨λi=>.int .i64 (l.getD i 0),λi x hx=>?_,λi j u hi hj=>?_⟩
 .rw[bX,aB] at hx;obtain⟨m,hm,rfl⟩:=hx;have e9:l.getD i 0=m:=by rw[aE,hm];rfl
  show Rep cap V (.int .i64) (.int .i64 (l.getD i 0)) _;rw[e9];have:=h m (kh hm);exact .int .i64 m this.1 this.2
 .have hj0:j=0:=by
   have:=(ed.1 hj).1;simp[Value.cells] at this;omega
  subst hj0;simp[Value.cells] at hj;subst hj;have df:i<l.length:=by simpa using hi
  simp[Ty.size,aU df,aE]
def axp (ds:List D)(d:D)(h:ajp ds=some d):uk ctx 76 [.obj 0 0] [(0,.row 3 (.int .i64))] (.tup []) ds d:=by
 unfold ajp at h;split at h
 case h_2=>cases h
 rename_i d0 xs;split at h
 case isFalse=>cases h
 rename_i hlen;cases h;intro N V own hv w args cx F5 ar hC bo hN aI bp dR h1 h2;obtain⟨v,rfl⟩:∃v,args=#[v]:=by
  match args,aI with
  |⟨[v]⟩,_=>exact⟨v,rfl⟩
 have eF:v=hv 0:=(h1 0).2 rfl;obtain⟨cells,fc,hx,cW,cU,ja⟩:=h2 0;have hx:D.list xs=D.list fc:=hx;cases hx;obtain⟨aY,bn⟩:=Tr cW.1 cU;rcases cW.2 with⟨_,h0⟩|⟨g,cap,cur,e1,e2,e3,e4,e5,e6,e7⟩
 .omega
 have cH:(Ty.int .i64).size=1:=rfl;rw[cH] at e6 e7;have hg:g<w.heap.size:=(ed.1 e3).1;have oI:own g=some 0:=ja g (by rw[e1];rfl);have kW:(xs.map D.i).length=xs.length:=by simp
 have hH:Go.Sort.Holds (Value.int .i64) w g 0 (xs.map D.i).toArray:=holds_of_blockI e3 (by rw[kW,<-aY,<-e7];simp);have cY:=Tryz.slices_Sort_int g 0 cap (xs.map D.i) w hH hg (by omega);rw[eF,e1];rw[kW] at cY;refine cY.mono λe w' hh=>?_;obtain⟨rfl,n,os,rfl⟩:=hh;rw[ass];refine WO (C:=ctx) (k:=1) (rest:=[]) (enc:=Value.int .i64) (F:=(lL (xs.map D.i)).toArray) rfl ar bo bp dR e1 e2 e3 e4 e5 e6 oI (by rw[ef,Mi,kW]) (by simp[Mi]) ?_ (by simp[e1]) rfl;exact Mk λx hx=>bn x ((Gu _).mem_iff.1 hx)
def axo (ds:List D)(d:D)(h:IA ds=some d):ej ctx 76 [.obj 0 0] [(0,.row 3 (.int .i64))] (.tup []) ds d:=by
 refine ej.of (by simp) ?_;by_cases h0:∃d0,ds=[d0,.list []]
 case neg=>
  refine axp ds d ?_;unfold IA at h;split at h
  case h_2=>cases h
  rename_i d0 xs;split at h
  case isFalse=>cases h
  rename_i hlen;have F6:0<xs.length:=by
   cases xs with
   |nil=>exact absurd ⟨_,rfl⟩ h0
   |cons x xs=>simp
  show(if 0<xs.length/\xs.length<=4294967296 then some (D.tup [.tup [],ints (lL (xs.map D.i))]) else none)=some d;rw[if_pos ⟨F6,hlen⟩];exact h
 obtain⟨d0,rfl⟩:=h0;obtain rfl:D.tup [.tup [],.list []]=d:=by simpa [IA,lL,ints] using h
 intro N V own hv w args cx F5 ar hC bo hN aI bp dR h1 h2;obtain⟨v,rfl⟩:∃v,args=#[v]:=by
  match args,aI with
  |⟨[v]⟩,_=>exact⟨v,rfl⟩
 have eF:v=hv 0:=(h1 0).2 rfl;obtain⟨cells,fc,hx,cW,cU,ja⟩:=h2 0;have hx:D.list []=D.list fc:=hx;cases hx;obtain⟨p,cap,e1⟩:∃p cap,hv 0=.slice p 0 cap:=by
  rcases cW.2 with⟨e,_⟩|⟨g,cap,cur,e,_⟩
  .exact⟨_,_,e⟩
  .exact⟨_,_,e⟩
 rw[eF,e1];refine(Tryz.slices_Sort_int_none p cap w).mono λe w' hh=>?_;obtain⟨rfl,rfl⟩:=hh
 refine⟨.tuple #[],V,own,hv,.tup [],[.list []],rfl,rfl,rfl,.refl V,ar,.refl _ _,λk hk _=>rfl,
  λk o x hx=>⟨.inl hx,λhc=>by rw[(dR k hc).2.2.1 o] at hx;cases hx⟩,λk x hx=>⟨.inl hx,λhc=>by rw[(dR k hc).2.2.2] at hx;cases hx⟩,λk hx=>absurd hx (bo k),
  λk j hk=>by obtain⟨g1,g2,g3,g4⟩:=bp k j hk;exact⟨g1,g2,g3,g4,λ_ hn=>by rw[hk] at hn;cases hn⟩,λt sh hs hd=>?_,λj=>?_,.tup [] [] [] rfl rfl (λi t hi=>by simp at hi)⟩
 .match t,hs with
  |0,hs=>simp at hs;subst hs;exact⟨aX _,λ_=>by simp[e1]⟩
  |t+1,hs=>simp at hs
 .exact h2 j
def KZ (ds:List D):Option D:=
 match ds with
 |[.list xs]=>if xs.length<=4294967296 then some (ints (ko (xs.map D.i))) else none
 |_=>none
def amj (l:List Int):Go.Lib.compact l=ko l:=by
 have e:∀j,l.toArray[j]! =l.getD j 0:=λj=>by simp[aE,getElem!_def];cases l[j]?<;>rfl
 unfold Go.Lib.compact Go.Lib.compactUpTo ko rj Go.Lib.keeps;simp only[e]
def amz (l:List Int):∀x,x∈ko l->x∈l:=by
 intro x hx;unfold ko rj at hx;obtain⟨j,hj,rfl⟩:=cr.1 hx;have af:j<l.length:=fu.1 (eR.1 hj).1;rw[aE,aU af];exact bU af
def amk (ds:List D)(d:D)(h:KZ ds=some d):ej ctx 77 [.obj 0 0] [(0,.row 3 (.int .i64)),(1,.tr)] (.slice (.int .i64)) ds d:=by
 unfold KZ at h;split at h
 case h_2=>cases h
 rename_i dZ;split at h
 case isFalse=>cases h
 rename_i hlen;cases h;show xG ctx 77 3 (.int .i64) [] [.list dZ] _;intro N V w v args xs cells ds' jS ar hC hN cW cU hblk ha;cases jS;obtain rfl:args=[]:=vz.1 ha.1;have na:cells.length=dZ.length*1:=cW.1;obtain⟨aY,bn⟩:=Tr na cU;have cH:(Ty.int .i64).size=1:=rfl;rcases cW.2 with⟨e1,h0⟩|⟨g,cap,cur,e1,e2,e3,e4,e5,e6,e7⟩
 .obtain rfl:dZ=[]:=vz.1 h0;subst e1;refine(Tryz.slices_Compact_int_empty none 0 w).mono λx w' hh=>?_;obtain⟨rfl,rfl⟩:=hh;exact⟨_,[],[],rfl,rfl,.refl _ _,λ_ _ _=>rfl,World.ownsRow_nil _ _ _ _,⟨λ_=>undef,by simp,by simp⟩,λk hk=>by cases hk⟩
 rw[cH] at e6 e7;subst e1;have kW:(dZ.map D.i).length=dZ.length:=by simp
 have hg:g<w.heap.size:=(ed.1 e3).1;have hH:Go.Sort.Holds (Value.int .i64) w g 0 (dZ.map D.i).toArray:=holds_of_blockI e3 (by rw[kW,<-aY,<-e7];simp);have cY:=Tryz.slices_Compact_int g 0 cap (dZ.map D.i) w hH (by rw[kW];omega) (by rw[kW];exact e4);rw[kW,amj] at cY;refine cY.mono λx w' hh=>?_;obtain⟨rfl,n,rfl⟩:=hh;have Fx:(ko (dZ.map D.i)).length<=dZ.length:=gm (abJ (dZ.map D.i) (dZ.map D.i).length) (by rw[kW];exact aX _);generalize Cq:ko (dZ.map D.i)++List.replicate (dZ.length-(ko (dZ.map D.i)).length) 0=ts;have htl:ts.length=(dZ.map D.i).length:=by rw[<-Cq];simp;omega
 have eV:=grownBy_sortedI (w:=w) (g:=g) (n:=n) (os:=#[]) ts.toArray;have Cl:=ownsRow_sortedI (w:=w) (base:=N) (n:=n) (os:=#[]) (ss:=dZ.map D.i) (ts:=ts) htl e2 e3 (by rw[kW];exact e4) e5 (by omega);have gV:∀W:World,Go.Sort.grow W #[]=W:=λW=>by simp[Go.Sort.grow]
 rw[gV] at eV Cl;refine⟨_,(ko (dZ.map D.i)).map D.int,(ko (dZ.map D.i)).map (Value.int .i64),rfl,rfl,⟨eV.os,eV.tape,eV.output,eV.size,λk hk=>eV.block k (by omega) (λe=>by cases e;omega)⟩,λk hk au=>eV.block k hk (λe=>au (by cases e;rfl)),?_,Mk λx hx=>bn x (amz _ x hx),λk hk=>?_⟩
 .rw[cH];refine⟨by simp,?_⟩;rcases Cl.2 with⟨f1,_⟩|⟨g',alv,QV,f1,f2,f3,f4,f5,f6,f7⟩
  .cases f1
  .cases f1;refine .inr ⟨g,cap,QV,by simp,f2,f3,by simp;omega,f5,f6,?_⟩;have:=congrArg (List.take (ko (dZ.map D.i)).length) f7;rw[Pt,kW,Ja,mN Fx,<-Cq,nR,List.take_left' (by simp)] at this;rw[ef,Ja];exact this
 .have bf:g=k:=by simpa [Value.ownBlock] using hk
  subst bf;exact⟨.inl (by simp[Value.ownBlock]),lu hg eV.size⟩
def ly (ds:List D):Option D:=
 match ds with
 |[.list xs]=>if xs.length<=4294967296 then some (.list xs) else none
 |_=>none
def al3 (ds:List D)(d:D)(h:ly ds=some d):∃s,ctx.sig 73=some s/\ff ctx 73 s ds d:=by
 refine⟨_,rfl,?_⟩;unfold ly at h;split at h
 case h_2=>cases h
 rename_i xs;split at h
 case isFalse=>cases h
 rename_i hlen;cases h;intro V w args ar hC ha;obtain⟨a1,a2,a3⟩:=ha;have Fq:=a3 0 _ rfl;obtain⟨v,rfl⟩:∃v,args=#[v]:=by
  have:args.size=1:=by simpa using a1
  match args,this with
  |⟨[v]⟩,_=>exact⟨v,rfl⟩
 simp only[qQ] at Fq;have fin:∀(v':Value) (w':World) (l:List Int),l.map D.int=xs->(∀x,x∈l->(IntKind.i64).min<=x/\x<=(IntKind.i64).max)->w'.ownsRow w.heap.size 3 1 v' l.length (l.map (Value.int .i64))->Below w.heap.size w w'->
  ∃v V',Ending.returned v'=Ending.returned v/\V.le V'/\V'.ok w'/\Below w.heap.size w w'/\(∀k o x,V'.c k o=some x->V.c k o=some x\/w.heap.size<=k)/\(∀k x,V'.m k=some x->V.m k=some x\/w.heap.size<=k)/\lx ctx ⟨[.slice (.int .i64)],.slice (.int .i64),.row 3 (.int .i64)⟩ V' w w' v (.list xs):=by
  intro v' w' l hl hb bp pX;subst hl;refine⟨v',V,rfl,.refl V,ar.below pX,pX,λ_ _ _ h=>.inl h,λ_ _ h=>.inl h,?_⟩;refine⟨_,l.map D.int,rfl,by rw[ef];exact bp,Mk hb,λk hk=>?_⟩;have bf:=(bp.lt k hk).1;refine⟨λo=>?_,?_⟩
  .cases hc:V.c k o with
   |none=>rfl
   |some u=>have:=World.block_lt_of_cell? w (a:=⟨k,o,none⟩) (ar.c _ _ _ hc);simp at this;omega
  .cases hc:V.m k with
   |none=>rfl
   |some u=>have:=(ar.m k u hc).lt;omega
 obtain⟨fc,hx,me⟩:=Rep.slice_inv Fq;cases hx;rcases me with⟨⟨p,hv⟩,rfl⟩|⟨k,o,c,hv,h1,h2,vs,h3,h4⟩
 .have hv:v=.slice p 0 0:=hv;subst hv;cases p with
  |none=>
   refine(Tryz.slices_Clone_int_nil 0 0 w).mono λe w' hh=>?_;obtain⟨rfl,rfl⟩:=hh;exact fin _ _ [] rfl (by simp) (World.ownsRow_nil _ _ _ _) (.refl _ _)
  |some a=>
   refine(Tryz.slices_Clone_int_zero a 0 w).mono λe w' hh=>?_;obtain⟨v',rfl,bp,_,hb⟩:=hh;exact fin v' w' [] rfl (by simp) bp hb
 .have hv:v=.slice (some ⟨k,o,none⟩) xs.length c:=hv;subst hv
  have Cg:∀i (hi:i<xs.length),∃n,xs[i]=.int n/\vs i=.int .i64 n/\(IntKind.i64).min<=n/\n<=(IntKind.i64).max:=λi hi=>by
   obtain⟨n,e1,e2,e3,e4⟩:=(h3 i _ (aU hi)).int_inv;exact⟨n,e2,e1,e3,e4⟩
  have Gn:(xs.map D.i).map D.int=xs:=by
   apply Pm (by simp);intro i uS yK;obtain⟨n,e1,_⟩:=Cg i yK;simp[e1]
  have kW:(xs.map D.i).length=xs.length:=by simp
  have aY:=Tryz.slices_Clone_int k o xs.length c (xs.map D.i) w (by simp) (by omega) (λj hj=>by
   have bC:j<xs.length:=by simpa using hj
   obtain⟨n,e1,e2,_⟩:=Cg j bC;have:=ar.c _ _ _ (h4 j 0 (.int .i64 n) bC (by rw[e2];rfl));have e3:(xs.map D.i).getD j 0=n:=by simp[aE,bC,e1]
   rw[e3];simpa [Ty.size] using this)
  refine aY.mono λe w' hh=>?_;obtain⟨v',rfl,bp,_,hb⟩:=hh;refine fin v' w' (xs.map D.i) Gn (λx hx=>?_) ?_ hb
  .obtain⟨y,hy,rfl⟩:=cr.1 hx;obtain⟨q,hq,rfl⟩:=ew hy;obtain⟨n,f1,f2,f3,f4⟩:=Cg q hq;rw[f1];exact⟨f3,f4⟩
  .rw[kW];rw[xT (by simp)] at bp;exact bp
end Rm
namespace Rm
open Go Go.Proofs Cx Go.RowKit Go.Sort
def dQ (r d:D):Int:=(((r.c 2).l.getD d.i.toNat .none).c 0).i
def zp (r d:D):Bool:=(decide (0<=d.i)&&decide (d.i<(r.c 2).l.length))&&(decide (0<=dQ r d)&&decide (dQ r d<=9))
def OC (ds:List D):Option D:=
 match ds with
 |[_,.clo f [.ref r],.list xs]=>if f=75/\xs.length<=4294967296/\xs.all (zp r)=true then some (.tup [.tup [],.list (gM (dQ r) xs)]) else none
 |_=>none
set_option maxHeartbeats 1000000 in
def alE (W:World)(b o k o' n c i j:Nat)(gi gj:Int)(hi:i<n)(hj:j<n)(hn:n<=9223372036854775807)(hs:IntKind.i64.wrap (gi-gj)=gi-gj)
 (h2:W.cell? ⟨b,o+2,none⟩=some (.slice (some ⟨k,o',none⟩) n c)) (hgi:W.cell? ⟨k,o'+i,none⟩=some (.int .i64 gi)) (yJ:W.cell? ⟨k,o'+j,none⟩=some (.int .i64 gj)):
 Calls Tryz.prog 75 #[.int .i64 i,.int .i64 j,.pointer (some ⟨b,o,none⟩)] W λe w'=>e=.returned (.int .i64 (gi-gj))/\∃q nq,w'=grow (W.drewN q) nq:=by
 have df:(i:Int)<(n:Int):=by omega
 have bC:(j:Int)<(n:Int):=by omega
 have mixed:Tryz.prog.follows .mixedOrders=true:=by kernel_rfl
 go_enter Tryz.func75,Tryz.ntmps75
 go_wp2
 go_region_o
 go_wp2
 go_ret
 exact⟨rfl,1,#[],by rw[grow_empty];rfl⟩
def alz {α:Type}[Inhabited α]{enc:α->Value}{w:World}{g m:Nat}{dk:Array α}{os:Array Obj}{a:Addr}(h1:a.block<w.heap.size)(h2:a.block≠g):(sortWorld enc w g 0 m dk os).cell? a=w.cell? a:=
 World.cell?_of_block ((Ry (enc:=enc) (w:=w) (g:=g) (n:=m) (os:=os) dk).block _ h1 (λe=>h2 (by cases e;rfl)))
def awy {cap:Nat->Option CSig}{V:Im}{u:Value}{r:D}(h:Rep cap V (.ref Y8) u (.ref r)):∃(b o k o' n c:Nat),u=.pointer (some ⟨b,o,none⟩)/\((r.c 2).l≠[]->V.c b (o+2)=some (.slice (some ⟨k,o',none⟩) n c)/\n=(r.c 2).l.length/\n<=9223372036854775807/\
 ∀i (hi:i<(r.c 2).l.length),V.c k (o'+i)=some (.int .i64 (((r.c 2).l[i]).c 0).i)):=by
 cases h with
 |ref t b o v d hv hc=>
  obtain⟨vs,ds,rfl,rfl,h1,h2,h3,_⟩:=hv.agg_inv;have h8:vs.length=8:=h1;have hr:=h3 2 _ rfl;have kr:V.c b (o+2)=some (vs.getD 2 undef):=hc 2 _ (by
   show vs.toArray[2]?=_;rw[xN,aE,aU (by omega)];rfl)
  have jS:(D.agg ds).c 2=ds.getD 2 .none:=rfl;rw[jS];generalize ds.getD 2 .none=x at*;generalize vs.getD 2 undef=y at*;obtain⟨xs,rfl,me⟩:=hr.slice_inv;show ∃(b' o2 k o' n c:Nat),_/\(xs≠[]->_)
  rcases me with⟨_,rfl⟩|⟨k,o',c,rfl,k1,k2,Ab,k3,k4⟩
  .exact⟨b,o,0,0,0,0,rfl,λe=>absurd rfl e⟩
  .refine⟨b,o,k,o',xs.length,c,rfl,λ_=>⟨kr,rfl,by unfold maxLen at k2;omega,λi hi=>?_⟩⟩;obtain⟨ws,es,e1,e2,f1,f2,f3,_⟩:=(k3 i _ (aU hi)).agg_inv
   match ws,es,f1,f2 with
   |[w0],[e0],_,_=>
    obtain⟨m,g1,g2,_⟩:=(f3 0 _ rfl).int_inv;simp only[qQ] at g1 g2;subst g1 g2;have:=k4 i 0 (.int .i64 m) hi (by rw[e1];rfl);have df:i<xs.length:=hi;have sS:xs[i]'df=D.agg [D.v (Value.int IntKind.i64 m)]:=e2;show V.c k (o'+i)=some (.int .i64 ((xs[i]'df).c 0).i);rw[sS];have e3:o'+i*Y1.size+0=o'+i:=by show o'+i*1+0=_;omega
    rw[e3] at this;exact this
def al6 {xs:List D}{n:Nat}{r:D}(aK:xs.all (zp r)=true)(hn:xs.length=n+1){V:Im}{w:World}{g:Nat}(ar:V.ok w)(hg:∀o,V.c g o=none){u:Value}(hu:Rep ctx.cap V (.ref Y8) u (.ref r))(size:Nat):
 CmpLays1 Tryz.prog 75 #[u] (λi:Fin (n+1)=>Value.int .i64 (xs.getD i .none).i) (λi j=>dQ r (xs.getD i .none)-dQ r (xs.getD j .none)) g 0 size w:=by
 intro m os dk hs x y
 have hr:∀i:Fin (n+1),zp r (xs.getD i .none)=true:=λi=>by
  have hi:(i:Nat)<xs.length:=by rw[hn];exact i.2
  have:=cN.1 aK _ (bU hi);rw[aE,aU hi];exact this
 have h1:=hr x;have h2:=hr y;simp only[zp,ao,decide_eq_true_eq] at h1 h2;obtain⟨b,o,k,o',nn,c,rfl,hl⟩:=awy hu;have au:(r.c 2).l≠[]:=λe=>by rw[e] at h1;simp at h1;omega
 obtain⟨l1,l2,l3,l4⟩:=hl au;have hgn:∀kk oo v,V.c kk oo=some v->kk≠g:=λkk oo v e h=>by subst h;rw[hg oo] at e;cases e
 have look:∀kk oo v,V.c kk oo=some v->(sortWorld (λi:Fin (n+1)=>Value.int .i64 (xs.getD i .none).i) w g 0 m dk os).cell? ⟨kk,oo,none⟩=some v:=λkk oo v e=>by
  have hw:=ar.c _ _ _ e;rw[alz (World.block_lt_of_cell? w (a:=⟨kk,oo,none⟩) hw) (hgn _ _ _ e)];exact hw
 have uR:∀i:Fin (n+1),0<=(xs.getD i .none).i->(xs.getD i .none).i<((r.c 2).l.length:Int)->V.c k (o'+(xs.getD i .none).i.toNat)=some (.int .i64 (dQ r (xs.getD i .none))):=λi a1 a2=>by
  have af:(xs.getD i .none).i.toNat<(r.c 2).l.length:=by omega
  rw[l4 _ af];unfold dQ;rw[aE (l:=(r.c 2).l),aU af];rfl
 have e1:=uR x h1.1.1 h1.1.2;have e2:=uR y h2.1.1 h2.1.2;have c:=alE (sortWorld (λi:Fin (n+1)=>Value.int .i64 (xs.getD i .none).i) w g 0 m dk os) b o k o' nn c (xs.getD x .none).i.toNat (xs.getD y .none).i.toNat (dQ r (xs.getD x .none)) (dQ r (xs.getD y .none)) (by omega) (by omega) l3 (aQ (by omega)) (look _ _ _ l1) (look _ _ _ e1) (look _ _ _ e2);rw[Int.toNat_of_nonneg h1.1.1,Int.toNat_of_nonneg h2.1.1] at c;exact c
def axl (ds:List D)(d:D)(h:OC ds=some d):ej ctx 74 [.obj 0 0,.dat (.fn [tI,tI] tI)] [(0,.row 3 tI)] (.tup []) ds d:=by
 refine ej.of (by simp) ?_;unfold OC at h;split at h
 case h_2=>cases h
 rename_i d0 f r xs;split at h
 case isFalse=>cases h
 rename_i hc;obtain⟨rfl,hlen,aK⟩:=hc;cases h;intro N V own hv w args cx F5 ar hC bo hN aI bp dR h1 h2;obtain⟨v,u,rfl⟩:∃v u,args=#[v,u]:=by
  match args,aI with
  |⟨[v,u]⟩,_=>exact⟨v,u,rfl⟩
 have eF:v=hv 0:=(h1 0).2 rfl;have hu:Rep ctx.cap V (.fn [tI,tI] tI) u (.clo 75 [.ref r]):=h1 1;obtain⟨p,rfl,hp⟩:∃p,u=.func (.func 75) #[] #[p]/\Rep ctx.cap V (.ref Y8) p (.ref r):=by
  obtain⟨vs,cs,rfl,k0,k1,k2,k3⟩:=QP hu;have cH:cs=⟨[.ref Y8],[I,I],I⟩:=by
   have e:ctx.cap 75=some ⟨[.ref Y8],[I,I],I⟩:=rfl;rw[e] at k0;exact(ur k0).symm
  subst cH
  match vs,k1 with
  |[p],_=>exact⟨p,rfl,k3 0 _ rfl⟩
 obtain⟨cells,fc,hx,cW,cU,ja⟩:=h2 0;have hx:D.list xs=D.list fc:=hx;cases hx;obtain⟨aY,bn⟩:=Tr cW.1 cU
 have hint:∀x,x∈xs->x=.int x.i:=λx hx=>by
  obtain⟨i,hi,rfl⟩:=ew hx;obtain⟨vs,bI,_⟩:=cU;obtain⟨n,e1,e2,_⟩:=(bI i _ (aU hi)).int_inv;rw[e2];rfl
 by_cases h0:xs=[]
 .subst h0;obtain⟨q,cap,e1⟩:∃p cap,hv 0=.slice p 0 cap:=by
   rcases cW.2 with⟨e,_⟩|⟨g,cap,cur,e,_⟩
   .exact⟨_,_,e⟩
   .exact⟨_,_,e⟩
  rw[eF,e1];refine(AnyF.slices_SortFunc_none {Tryz.laysSlF6_f61 with} q cap _ w).mono λe w' hh=>?_;obtain⟨rfl,rfl⟩:=hh
  refine⟨.tuple #[],V,own,hv,.tup [],[.list []],rfl,rfl,rfl,.refl V,ar,.refl _ _,λk hk _=>rfl,
   λk o x hx=>⟨.inl hx,λhc=>by rw[(dR k hc).2.2.1 o] at hx;cases hx⟩,λk x hx=>⟨.inl hx,λhc=>by rw[(dR k hc).2.2.2] at hx;cases hx⟩,λk hx=>absurd hx (bo k),
   λk j hk=>by obtain⟨g1,g2,g3,g4⟩:=bp k j hk;exact⟨g1,g2,g3,g4,λ_ hn=>by rw[hk] at hn;cases hn⟩,λt sh hs hd=>?_,λj=>?_,.tup [] [] [] rfl rfl (λi t hi=>by simp at hi)⟩
  .match t,hs with
   |0,hs=>simp at hs;subst hs;exact⟨aX _,λ_=>by simp[e1]⟩
   |1,hs=>simp at hs;subst hs;cases hd
   |t+2,hs=>simp at hs
  .exact h2 j
 obtain⟨n,hn⟩:∃n,xs.length=n+1:=⟨xs.length-1,by have:=xO.2 h0;omega⟩
 rcases cW.2 with⟨_,h0⟩|⟨g,cap,cur,e1,e2,e3,e4,e5,e6,e7⟩
 .omega
 have cH:(Ty.int .i64).size=1:=rfl;rw[cH] at e6 e7;have hg:g<w.heap.size:=(ed.1 e3).1;have oI:own g=some 0:=ja g (by rw[e1];rfl)
 have hH:Go.Sort.Holds (λi:Fin (n+1)=>Value.int .i64 (xs.getD i .none).i) w g 0 (Array.ofFn id):=by
  have hF:Go.Sort.Holds id w g 0 (xs.map λx=>Value.int .i64 x.i).toArray:=SG e3 (by
   rw[Ja] at e7;have:(xs.map λx=>Value.int .i64 x.i).toArray.size=xs.length:=by simp
   rw[this,e7,aY,nS];rfl)
  intro j hj;have bC:j<n+1:=by simpa using hj
  have R9:j<xs.length:=by omega
  have:=hF j (by simpa using R9);rw[getElem!_pos _ j (by simpa using R9)] at this;rw[getElem!_pos _ j hj];simpa [R9] using this
 have cY:=Any.slices_SortFunc_eq Tryz.laysSlF6_f61 (λi:Fin (n+1)=>Value.int .i64 (xs.getD i .none).i) (λ_=>rfl) (λi j=>dQ r (xs.getD i .none)-dQ r (xs.getD j .none)) (Xb (dQ r) xs (n+1)) 75 #[p] g 0 cap (Array.ofFn id) w
  (enters_of Tryz.func75 (by kernel_rfl) rfl) (al6 aK hn ar (bp g 0 oI).2.2.1 hp _) hH hg (by simp;omega)
 change Calls Tryz.prog 74 _ _ _ at cY;simp only[aag] at cY;have mV:hv 0=.slice (some ⟨g,0,none⟩) (n+1) cap:=by rw[e1,hn]
 rw[eF,mV];refine cY.mono λe w' hh=>?_;obtain⟨rfl,m,os,rfl⟩:=hh;have wv:=OD (dQ r) xs n;have oQ:(gM (dQ r) xs).length=xs.length:=(sE (dQ r) xs).length_eq;refine WO (C:=ctx) (k:=1) (rest:=[.dat (.fn [tI,tI] tI)]) (enc:=λi:Fin (n+1)=>Value.int .i64 (xs.getD i .none).i) (F:=pj (dQ r) xs n) rfl ar bo bp dR mV e2 e3 (by rw[<-hn];exact e4) e5 e6 oI (by rw[oQ,hn]) (by rw[wv,Ja]) ?_ (by simp[mV]) rfl
 have e8:(pj (dQ r) xs n).toList.map (λi:Fin (n+1)=>Value.int .i64 (xs.getD i .none).i)=((gM (dQ r) xs).map D.i).map (Value.int .i64):=by
  rw[ajn hn,nS,nS];rfl
 have e9:((gM (dQ r) xs).map D.i).map D.int=gM (dQ r) xs:=by
  rw[nS]
  conv=>rhs;rw[<-xP (gM (dQ r) xs)]
  exact sL λx hx=>(hint x ((sE (dQ r) xs).mem_iff.1 hx)).symm
 rw[e8]
 have:=Mk (cap:=ctx.cap) (V:=V) (l:=(gM (dQ r) xs).map D.i) λx hx=>by
  obtain⟨y,hy,rfl⟩:=cr.1 hx;exact bn _ (As ((sE (dQ r) xs).mem_iff.1 hy))
 rw[e9] at this;exact this
def axa {α:Type}[Inhabited α](enc:α->List Value)(k:Nat)(hk:∀x,(enc x).length=k)(d:Array α)(i:Nat)(hi:i<d.size)(y:α):setMany (flatK enc k d) (i*k) (enc y)=flatK enc k (d.setIfInBounds i y):=by
 refine ext_get! (by simp) λt ht=>?_;have wx:t<d.size*k:=by simpa using ht
 have k0:0<k:=by rcases DY k with h|h;·subst h;simp at wx
                 .exact h
 rw[get_setMany _ _ _ t (by simpa using wx),get_flatK _ _ _ t wx,get_flatK _ _ _ t (by simpa using wx),hk];have m:∀q,t/k=q->t-q*k=t%k:=λq h=>by subst h;rw[Nat.mod_eq_sub_div_mul]
 by_cases a:t/k=i
 .rw[if_pos ((blk_iff k i t k0).2 a),m i a,a];have e:(d.setIfInBounds i y)[i]! =y:=getElem!_set_same d i y hi;rw[e]
 .rw[if_neg (λh=>a ((blk_iff k i t k0).1 h))];have e:(d.setIfInBounds i y)[t/k]! =d[t/k]!:=getElem!_set_other d i (t/k) y a;rw[e]
def akv {α:Type}[Inhabited α]{enc:α->List Value}{k:Nat}{w0 W:World}{iV off:Nat}{dk:Array α}(h:SWK enc k w0 iV off dk W)(hk:∀x,(enc x).length=k)(hblk:iV<w0.heap.size)(i:Nat)(hi:i<dk.size)(y:α):SWK enc k w0 iV off (dk.setIfInBounds i y) (W.setCells iV (off+i*k) (enc y)):=by
 obtain⟨m,os,rfl⟩:=h;refine⟨m,os,?_⟩;unfold sortWorldK;rw[setCells_grow os iV _ _ _ (by show iV<(putRowK enc k _ iV off dk).heap.size;rw[size_putRowK];exact hblk)];unfold putRowK;rw[setCells_putRow _ _ _ _ _ _ (by rw[hk,size_flatK];exact rowK_bnd dk k i hi),axa enc k hk dk i hi y]
def awY {P:Program}(w:World)(t e ty:TypeId)(z:Value)(ht:P.underlying t=some (.slice e))(hv:∀w,(zeroValue e).run P w=.ok z w)(b o n c:Nat)(hn:0<n)(w':World)
 (hs:Sem.run P (storeCells ⟨b,o,none⟩ (Builtin.zeroCells z.cells n).toList 0) w=.ok () w'):
 (Builtin.clear_ #[t] ty #[.slice (some ⟨b,o,none⟩) n c]).run P w=.ok (.tuple #[]) w':=by
 obtain⟨m,rfl⟩:∃m,n=m+1:=⟨n-1,by omega⟩
 simp[Builtin.clear_,run_underlying ht,hv,hs]
end Rm
namespace Rm
open Go Go.Proofs Cx Go.RowKit Go.Sort Go.Lib
def gZ (d:D):Bool:=decide ((d.c 3).i=1)&&(decide ((d.c 1).i=1)||(d.c 6).b)
set_option maxHeartbeats 1000000 in
def aeS (a0 a1 a2 a3 a4 a5:Int)(a6:Bool)(W:World):
 Calls Tryz.prog 70 #[.agg #[.int .i64 a0,.int .i64 a1,.int .i64 a2,.int .i64 a3,.int .i64 a4,.int .i64 a5,.bool a6]] W λe w'=>e=.returned (.bool (!(decide (a3=1)&&(decide (a1=1)||a6))))/\∃q nq,w'=grow (W.drewN q) nq:=by
 go_enter Tryz.func70,Tryz.ntmps70
 go_wp2
 all_goals
  go_ret
  refine⟨?_,0,_,by rw[alloc_eq_grow];rfl⟩;simp_all
def alc (W:World)(q:Nat)(os:Array Obj):Below W.heap.size W (grow (W.drewN q) os):=
 ⟨rfl,rfl,rfl,by show W.heap.size<=(W.heap++os).size;rw[Array.size_append];omega,λ_ hj=>heap_grow_old (W.drewN q) os hj⟩
def avz (w:World):PredBelow Tryz.prog 70 #[] (λx:D=>.agg (bR x).toArray) (λx=> !gZ x) w:=λW x hb=>by
 refine(aeS (x.c 0).i (x.c 1).i (x.c 2).i (x.c 3).i (x.c 4).i (x.c 5).i (x.c 6).b W).mono λe w' hh=>?_;obtain⟨rfl,q,nq,rfl⟩:=hh;exact⟨rfl,hb.trans ((alc W q nq).mono hb.size)⟩
def an2 {xs:List D}{j:Nat}(hj:j<xs.length){i:Nat}{v:Value}(hv:(bR xs[j]!)[i]?=some v):(flatK bR 7 xs.toArray)[j*7+i]?=some v:=by
 have hi:i<7:=by have:=(eu.1 hv).1;simpa [bR] using this
 rw[<-py,BS ox];have e:xs[j]! =xs[j]:=getElem!_pos xs j hj;rw[e] at hv;have:=Fb ox xs j i _ (aU hj) hi;simp only[List.toList_toArray] at*;rw[this,hv]
def adL {w:World}{g off:Nat}{xs:List D}(hH:HoldsK bR 7 w g off xs.toArray){j:Nat}(hj:j<xs.length)(i:Nat)(v:Value)(hv:(bR xs[j]!)[i]?=some v):w.cell? ⟨g,off+j*7+i,none⟩=some v:=by
 have h:=an2 hj hv;have af:=(ed.1 h).1;have:=(hH (j*7+i) af).1;rw[getElem!_pos (flatK bR 7 xs.toArray) _ af,(ed.1 h).2] at this;rw[qU];exact this
def adM {w:World}{g off:Nat}{d:Array D}(hH:HoldsK bR 7 w g off d){j:Nat}(hj:j<d.size)(i:Nat)(v:Value)(hv:(bR d[j]!)[i]?=some v):w.cell? ⟨g,off+j*7+i,none⟩=some v/\w.frozen? ⟨g,off+j*7+i,none⟩=false:=by
 have hi:i<7:=by have:=(eu.1 hv).1;simpa [bR] using this
 have af:j*7+i<(flatK bR 7 d).size:=by rw[size_flatK];omega
 refine⟨?_,by have:=(hH (j*7+i) af).2;rw[qU];exact this⟩;have e:d.toList.toArray=d:=by simp
 have bC:j<d.toList.length:=by simpa using hj
 have e2:d.toList[j]! =d[j]!:=by rw[getElem!_pos d.toList j bC,getElem!_pos d j hj];simp
 exact adL (xs:=d.toList) (by rw[e];exact hH) bC i v (by rw[e2];exact hv)
def Eo (wr:World)(cs:Array Value)(T:TypeId)(q:Nat)(os:Array Obj)(k:Nat)(v:Value)(hv:cs[k]?=some v):(grow ((wr.alloc (.cells cs T)).drewN q) os).cell? ⟨wr.heap.size,k,none⟩=some v:=by
 rw[cell?_grow _ _ _ (by show wr.heap.size<(wr.heap.push _).size;rw[Array.size_push];omega)];show(wr.alloc _).cell? _=_;have e:(wr.alloc (.cells cs T)).heap[wr.heap.size]?=some (.cells cs T):=Array.getElem?_push_size;unfold World.cell?;simp only[e];exact hv
def an1 {α:Type}{f:α->List Value}{k:Nat}(hk:∀x,(f x).length=k)(l:List α)(i:Nat)(hi:i<=l.length):(l.flatMap f).take (i*k)=(l.take i).flatMap f:=by
 have e:l.flatMap f=(l.take i).flatMap f++(l.drop i).flatMap f:=by rw[<-List.flatMap_append,I7]
 rw[e];exact List.take_left' (by rw[Fc hk,dO,mN hi])
def axb (F:Array Value)(s:Nat)(vs:List Value)(hs:s<=F.size):(setMany F s vs).toList.take s=F.toList.take s:=by
 apply vx;intro t;by_cases ht:t<s
 .have h1:t<F.size:=by omega
  have h2:t<(setMany F s vs).size:=by rw[size_setMany];omega
  rw[DV ht,DV ht,py,py,ir h1,ir h2];have:=get_setMany vs s F t h1;rw[if_neg (by omega),getElem!_pos _ t h2,getElem!_pos F t h1] at this;rw[this]
 .rw[aax (by omega),aax (by omega)]
def adK {w w1:World}{g off:Nat}{d:Array D}(hH:HoldsK bR 7 w g off d)(hg:g<w.heap.size)(hb:Below w.heap.size w w1):HoldsK bR 7 w1 g off d:=λj hj=>by
 have e:=hb.block g hg;obtain⟨h1,h2⟩:=hH j hj;exact⟨by rw[World.cell?_of_block (w:=w) e];exact h1,by rw[World.frozen?_of_block (w:=w) e];exact h2⟩
set_option maxHeartbeats 1000000 in
set_option maxRecDepth 100000 in
def amC (g off cap:Nat)(xs:List D)(w:World)(hH:HoldsK bR 7 w g off xs.toArray)(hg:g<w.heap.size)(aI:xs.length<=4294967296)(eU:xs.length<=cap)(aFK:cap<=9223372036854775807):
 Calls Tryz.prog 69 #[.slice (some ⟨g,off,none⟩) xs.length cap,.func (.func 70) #[] #[]] w λe w'=>e=.returned (.slice (some ⟨g,off,none⟩) (xs.filter gZ).length cap)/\
  ∃(w1:World) (m:Nat) (os:Array Obj) (F:Array Value),Below w.heap.size w w1/\F.size=xs.length*7/\F.toList.take ((xs.filter gZ).length*7)=(xs.filter gZ).flatMap bR/\w'=grow (putRow id (Sort.ahead w1 m) g off F) os:=by
 have eg:∀args w,(callFunc 70 args).run Tryz.prog w=.ok (.enter 70 args) w:=enters_of Tryz.func70 (by kernel_rfl) rfl;have uM:=AnyQ.slices_IndexFunc Tryz.ixE 7 Tryz.isAgg59 Tryz.sizeOf59 bR ox (λx=> !gZ x) 70 #[] eg g off xs.length cap xs w (avz w) (aX _) (by omega) hg (λj hj i v hv=>adL hH hj i v hv);change Calls Tryz.prog 111 _ _ _ at uM;rw[Au] at uM;obtain⟨d,hd⟩:∃d,d=xs.toArray:=⟨_,rfl⟩
 have jS:d.size=xs.length:=by rw[hd];simp
 have LH:∀j,j<xs.length->xs[j]! =d[j]!:=λj hj=>by rw[hd,getElem!_pos xs j hj,getElem!_pos xs.toArray j (by simpa using hj)];simp
 obtain⟨kp,HK⟩:∃kp:Nat->Bool,Hid (kp=λj=>gZ d[j]!):=⟨_,rfl⟩
 have FC:xs.filter gZ=keptUpTo kp d d.size:=by rw[HK.out,keptUpTo_filter gZ d,hd]
 rw[FC];rcases idxByFrom_spec (λ_ y=> !gZ y) default xs 0 with⟨e1,aK⟩|⟨k0,gW,e1,ht,aK⟩
 .have e2:Lib.idxBy (λ_ y=> !gZ y) xs default=-1:=e1;rw[e2] at uM
  have rJ:∀j,j<d.size->kp j=true:=λj hj=>by
   rw[HK.out];have:=aK j (by omega);rw[LH j (by omega)] at this;simpa using this
  have e3:keptUpTo kp d d.size=d.toList:=by rw[keptUpTo_all kp d _ rJ,range_map_get]
  have A:Aside (HoldsK bR 7 w g off xs.toArray):=hH;clear hH
  go_enter Tryz.func69,Tryz.ntmps69
  go_wp2_with (go_at_call 111;refine uM.mono ?_;rintro e w' ⟨rfl,hb⟩)
  go_ret
  rw[e3];refine⟨by simp[jS],w',0,#[],flatK bR 7 d,hb,by rw[size_flatK,jS],?_,?_⟩
  .rw[BS ox,xT (by rw[Fc ox];exact aX _)]
  .rw[grow_empty];rw[<-hd] at A;exact(putRow_self id w' g off _ (adK A.out hg hb)).symm
 .have aqM:k0<d.size:=by omega
  have e2:Lib.idxBy (λ_ y=> !gZ y) xs default=(k0:Int):=by unfold Lib.idxBy;rw[e1];simp
  rw[e2] at uM
  have rJ:∀j,j<k0->kp j=true:=λj hj=>by
   rw[HK.out];have:=aK j hj;rw[LH j (by omega)] at this;simpa using this
  have aqa:kp k0=false:=by
   rw[HK.out];have:=ht;rw[LH k0 (by omega)] at this;simpa using this
  have Sr:((k0:Int)==-1)=false:=beq_eq_false_iff_ne.2 (by omega);have A:Aside (HoldsK bR 7 w g off xs.toArray):=hH;have AD:Aside (xs.toArray=d):=hd.symm;clear hH FC LH aK ht e1 e2;have HD:Hid (d.size=xs.length):=jS;rw[jS];clear hd jS aqM;obtain⟨n,hn⟩:∃n,n=xs.length:=⟨_,rfl⟩
  have HN:Hid (d.size=n):=HD.out.trans hn.symm;rw[<-hn] at aI eU uM gW ⊢;clear hn HD
  go_enter Tryz.func69,Tryz.ntmps69
  go_wp2_with (go_at_call 111;refine uM.mono ?_;rintro e w1 ⟨rfl,hb⟩)
  have hH1:HoldsK bR 7 w1 g off d:=by rw[<-AD.out];exact adK A.out hg hb
  have jU:g<w1.heap.size:=lu hg hb.size;have HH:Hid (HoldsK bR 7 w1 g off d):=hH1;have HB:Hid (Below w.heap.size w w1):=hb;clear hH1 hb
  go_loopg [5,6,7] n (λgg s5 s6 _ wr=>∃(i j:Nat) (dk:Array D),s5=.int .i64 i/\s6=.int .i64 j/\j<=n/\n-j<=gg/\Hid (SWK bR 7 w1 g off dk wr)/\Aside (KeptInv kp d j i dk))
  case atStart=>exact⟨k0,k0+1,d,rfl,by go_num,by omega,by omega,SWK.start HH.out,KeptInv.start rJ aqa⟩
  case round=>
   obtain⟨i,j,dk,rfl,rfl,hjd,hgg,HS,I2⟩:=hrel;have hI:=I2.out;have dw:=hI.lt;have LI:=hI.size;have bo:=HN.out;by_cases af:j<n
   .have aqW:(j:Int)<(n:Int):=by omega
    have Sd:kp j=gZ d[j]!:=by rw[HK.out]
    have EQ:Hid (d[j]! =d[j]!):=rfl;obtain⟨u,hu⟩:∃u,u=d[j]!:=⟨_,rfl⟩
    rw[<-hu] at Sd;have hc:=λi v hv=>(adM (HS.out.holds jU HH.out LI) (show j<dk.size by omega) i v hv).1;rw[hI.high j (by omega),<-hu] at hc;have c0:wr.cell? ⟨g,off+j*7,none⟩=some (.int .i64 (u.c 0).i):=hc 0 _ rfl;have c1:wr.cell? ⟨g,off+j*7+1,none⟩=some (.int .i64 (u.c 1).i):=hc 1 _ rfl;have c2:wr.cell? ⟨g,off+j*7+2,none⟩=some (.int .i64 (u.c 2).i):=hc 2 _ rfl;have c3:wr.cell? ⟨g,off+j*7+3,none⟩=some (.int .i64 (u.c 3).i):=hc 3 _ rfl;have c4:wr.cell? ⟨g,off+j*7+4,none⟩=some (.int .i64 (u.c 4).i):=hc 4 _ rfl;have c5:wr.cell? ⟨g,off+j*7+5,none⟩=some (.int .i64 (u.c 5).i):=hc 5 _ rfl;have c6:wr.cell? ⟨g,off+j*7+6,none⟩=some (.bool (u.c 6).b):=hc 6 _ rfl;clear hc;have cY:∀W,Calls Tryz.prog 70 #[.agg #[.int .i64 (u.c 0).i,.int .i64 (u.c 1).i,.int .i64 (u.c 2).i,.int .i64 (u.c 3).i,.int .i64 (u.c 4).i,.int .i64 (u.c 5).i,.bool (u.c 6).b]] W λe w'=>e=.returned (.bool (!gZ u))/\∃q nq,w'=grow (W.drewN q) nq:=λW=>aeS _ _ _ _ _ _ _ W;have U:Hid (u=d[j]!/\kp j=gZ u):=⟨hu,Sd⟩
    clear hu Sd hI;have EU:Hid (bR u=[.int .i64 (u.c 0).i,.int .i64 (u.c 1).i,.int .i64 (u.c 2).i,.int .i64 (u.c 3).i,.int .i64 (u.c 4).i,.int .i64 (u.c 5).i,.bool (u.c 6).b]):=rfl;generalize gZ u=ku at cY U;generalize (u.c 0).i=a0 at c0 cY EU;generalize (u.c 1).i=a1 at c1 cY EU;generalize (u.c 2).i=a2 at c2 cY EU;generalize (u.c 3).i=a3 at c3 cY EU;generalize (u.c 4).i=a4 at c4 cY EU;generalize (u.c 5).i=a5 at c5 cY EU;generalize (u.c 6).b=a6 at c6 cY EU
    go_wp2_with fail
    refine(cY _).mono ?_;rintro e w' ⟨rfl,qq,M6,rfl⟩;have IX:SWK bR 7 w1 g off dk (grow ((wr.alloc (.cells #[.int .i64 a0,.int .i64 a1,.int .i64 a2,.int .i64 a3,.int .i64 a4,.int .i64 a5,.bool a6] 59)).drewN qq) M6):=(HS.out.alloc _).grown qq M6;have rD:=λk v hv=>Eo wr #[.int .i64 a0,.int .i64 a1,.int .i64 a2,.int .i64 a3,.int .i64 a4,.int .i64 a5,.bool a6] 59 qq M6 k v hv;have cW:=λk v hv=>adM (IX.holds jU HH.out LI) (show i<dk.size by omega) k v hv;generalize grow ((wr.alloc (.cells #[.int .i64 a0,.int .i64 a1,.int .i64 a2,.int .i64 a3,.int .i64 a4,.int .i64 a5,.bool a6] 59)).drewN qq) M6=W2 at IX rD cW ⊢;obtain⟨x,hx⟩:∃x,x=dk[i]!:=⟨_,rfl⟩
    rw[<-hx] at cW;clear hx c0 c1 c2 c3 c4 c5 c6 HS cY;have b0:=rD 0 _ rfl;have b1:=rD 1 _ rfl;have b2:=rD 2 _ rfl;have b3:=rD 3 _ rfl;have b4:=rD 4 _ rfl;have b5:=rD 5 _ rfl;have b6:=rD 6 _ rfl;have r0:W2.cell? ⟨g,off+i*7,none⟩=some (.int .i64 (x.c 0).i)/\W2.frozen? ⟨g,off+i*7,none⟩=false:=cW 0 _ rfl;have r1:=cW 1 _ rfl;have r2:=cW 2 _ rfl;have r3:=cW 3 _ rfl;have r4:=cW 4 _ rfl;have r5:=cW 5 _ rfl;have r6:=cW 6 _ rfl;obtain⟨r0,s0⟩:=r0;obtain⟨r1,s1⟩:=r1;obtain⟨r2,s2⟩:=r2;obtain⟨r3,s3⟩:=r3;obtain⟨r4,s4⟩:=r4;obtain⟨r5,s5⟩:=r5;obtain⟨r6,s6⟩:=r6;clear cW rD;have SS:Hid (SWK bR 7 w1 g off dk W2):=IX;clear IX;cases ku with
    |false=>
     go_wp2
     go_roundg (n-(j+1))
     case measure=>omega
     case rel=>exact⟨i,j+1,dk,rfl,by go_num,by omega,aX _,SS,I2.out.skip U.out.2⟩
    |true=>
     have hiz:(i:Int)<(n:Int):=by omega
     go_wp2
     go_roundg (n-(j+1))
     case measure=>omega
     case rel=>
      refine⟨i+1,j+1,dk.setIfInBounds i u,by go_num,by go_num,by omega,aX _,?_,(show Aside _ from ?_)⟩
      .have:=akv SS.out ox jU i (by omega) u;rw[EU.out] at this;exact this
      .have:=I2.out.keep (by omega) U.out.2;rw[<-U.out.1] at this;exact this
   .obtain rfl:j=n:=by omega
    have aqW:¬(j:Int)<(j:Int):=by omega
    obtain⟨m,os,gC⟩:=HS.out;have hHk:=HS.out.holds jU HH.out LI;have hiz:(i:Int)<=(j:Int):=by omega
    have hic:(i:Int)<=(cap:Int):=by omega
    obtain⟨zs,jy⟩:∃zs,zs=(Builtin.zeroCells (Value.agg #[.int .i64 0,.int .i64 0,.int .i64 0,.int .i64 0,.int .i64 0,.int .i64 0,.bool false]).cells (j-i)).toList:=⟨_,rfl⟩
    have kW:zs.length=(j-i)*7:=by rw[jy,Ag,size_zeroCells];simp[Value.cells]
    have kV:∀v∈zs,v.oneCell'=true:=by
     intro v hv;rw[jy] at hv;unfold Builtin.zeroCells at hv;rw[vu,cr] at hv;obtain⟨a,_,rfl⟩:=hv;have h7:a%7<7:=pD _ (by decide);show((#[Value.int .i64 0,.int .i64 0,.int .i64 0,.int .i64 0,.int .i64 0,.int .i64 0,.bool false]:Array Value)[a%7]!).oneCell'=true;generalize a%7=b at h7;rcases b with _|_|_|_|_|_|_|b<;>first|rfl|omega
    have cA:Sem.run Tryz.prog (storeCells ⟨g,off+i*7,none⟩ zs 0) wr=.ok () (wr.setCells g (off+i*7) zs):=stores_of_holds Tryz.prog hHk (i*7) zs (by rw[kW,size_flatK];omega) kV;have aFM:∀ty,(Builtin.clear_ #[55] ty #[.slice (some ⟨g,off+i*7,none⟩) (j-i) (cap-i)]).run Tryz.prog wr=.ok (.tuple #[]) (wr.setCells g (off+i*7) zs):=λty=>
     awY wr 55 59 ty _ Tryz.underlying55 Tryz.zeroValue59 g (off+i*7) (j-i) (cap-i) (by omega) _ (by rw[<-jy];exact cA)
    have R:Hid (wr=sortWorldK bR 7 w1 g off m dk os/\zs.length=(j-i)*7):=⟨gC,kW⟩
    clear gC hHk jy kW kV cA
    go_wp2
    go_ret
    have hI:=I2.out;have hlen:=hI.len;refine⟨by rw[hlen];rfl,w1,HB.out,m,os,setMany (flatK bR 7 dk) (i*7) zs,by rw[size_setMany,size_flatK,LI,bo],?_,?_⟩
    .rw[hlen,axb _ _ _ (by rw[size_flatK];omega),BS ox,an1 ox _ _ (by simp;omega)]
     congr 1
     apply vx;intro t;by_cases ht:t<i
     .have h1:=hI.low t ht;rw[h1,DV ht,py,ir (by omega),getElem!_pos dk t (by omega)]
     .rw[kg (by simp;omega),kg (by omega)]
    .rw[R.out.1];unfold sortWorldK;rw[setCells_grow os g _ _ _ (by show g<(putRowK bR 7 _ g off dk).heap.size;rw[size_putRowK];exact jU)];unfold putRowK;rw[setCells_putRow _ _ _ _ _ _ (by rw[R.out.2,size_flatK];omega)]
set_option maxHeartbeats 1000000 in
def aso (fv:Value)(w:World):Calls Tryz.prog 111 #[.slice none 0 0,fv] w λe w'=>e=.returned (.int .i64 (-1))/\w'=w:=by
 go_enter Tryz.func111,Tryz.ntmps111
 go_wp2
 refine wp_loop_rounds 1 ?_;rw[rounds_succ]
 go_wp2
 go_ret
 exact⟨rfl,rfl⟩
set_option maxHeartbeats 1000000 in
def amD (fv:Value)(w:World):Calls Tryz.prog 69 #[.slice none 0 0,fv] w λe w'=>e=.returned (.slice none 0 0)/\w'=w:=by
 have uM:=aso fv w
 go_enter Tryz.func69,Tryz.ntmps69
 go_wp2_with (go_at_call 111;refine uM.mono ?_;rintro e w' ⟨rfl,rfl⟩)
 go_ret
 exact⟨rfl,rfl⟩
def K1 (ds:List D):Option D:=
 match ds with
 |[.list xs,.clo f []]=>if f=70/\xs.length<=4294967296 then some (.list (xs.filter gZ)) else none
 |_=>none
def amA (ds:List D)(d:D)(h:K1 ds=some d):ej ctx 69 [.obj 0 0,.dat (.fn [tE] .bool)] [(0,.row 59 tE),(1,.tr)] (.slice tE) ds d:=by
 unfold K1 at h;split at h
 case h_2=>cases h
 rename_i dZ f;split at h
 case isFalse=>cases h
 rename_i hc;obtain⟨rfl,hlen⟩:=hc;cases h;show xG ctx 69 59 tE [.fn [tE] .bool] [.list dZ,.clo 70 []] _;intro N V w v args xs cells ds' jS ar hC hN cW cU hblk ha;cases jS;obtain⟨a1,a2,a3⟩:=ha;obtain⟨u,rfl⟩:∃u,args=[u]:=by
  match args,a1 with
  |[u],_=>exact⟨u,rfl⟩
 have hu:Rep ctx.cap V (.fn [tE] .bool) u (.clo 70 []):=a3 0 _ rfl;obtain rfl:u=.func (.func 70) #[] #[]:=by
  obtain⟨vs,cs,rfl,_,k1,k2,_⟩:=QP hu;have:vs=[]:=vz.1 (by rw[k1,<-k2];rfl);rw[this]
 obtain⟨aY,hE⟩:=abZ cW.1 cU;rcases cW.2 with⟨e1,h0⟩|⟨g,cap,cur,e1,e2,e3,e4,e5,e6,e7⟩
 .obtain rfl:dZ=[]:=vz.1 h0;subst e1;refine(amD _ w).mono λx w' hh=>?_;obtain⟨rfl,rfl⟩:=hh;exact⟨_,[],[],rfl,rfl,.refl _ _,λ_ _ _=>rfl,World.ownsRow_nil _ _ _ _,⟨λ_=>undef,by simp,by simp⟩,λk hk=>by cases hk⟩
 subst e1;have hg:g<w.heap.size:=(ed.1 e3).1;have hH:HoldsK bR 7 w g 0 dZ.toArray:=by
  refine SG e3 ?_;rw[BS ox,size_flatK,show dZ.toArray.size*7=dZ.length*tE.size by simp;rfl,e7,aY]
 have cY:=amC g 0 cap dZ w hH hg hlen e4 (by unfold maxLen at e5;omega);refine cY.mono λx w' hh=>?_;obtain⟨rfl,w1,m,os,F,hb,hF,hT,rfl⟩:=hh;have EK:w1.heap[g]?=some (.cells cur 59 (0,0)):=by rw[hb.block g hg];exact e3
 have eV:=Ry (enc:=id) (w:=w1) (g:=g) (n:=m) (os:=os) F;have Cl:=ahv (enc:=id) (w:=w1) (base:=N) (n:=m) (os:=os) (m:=dZ.length) (k:=7) hF e2 EK e4 e5 e6;generalize Go.Sort.grow (Go.Sort.putRow id (Go.Sort.ahead w1 m) g 0 F) os=W at*;have vW:(dZ.filter gZ).length<=dZ.length:=pA _ _;refine⟨_,dZ.filter gZ,(dZ.filter gZ).flatMap bR,rfl,rfl,⟨eV.os.trans hb.os,eV.tape.trans hb.tape,eV.output.trans hb.output,gm hb.size eV.size,λk hk=>?_⟩,λk hk au=>?_,?_,ab0 λx hx=>hE x (eR.1 hx).1,λk hk=>?_⟩
 .rw[eV.block k (lu hk (gm hN hb.size)) (λe=>by cases e;omega),hb.block k (lu hk hN)]
 .rw[eV.block k (lu hk hb.size) (λe=>au (by cases e;rfl)),hb.block k hk]
 .refine⟨by rw[Fc ox];rfl,?_⟩;rcases Cl.2 with⟨f1,_⟩|⟨g',alv,QV,f1,f2,f3,f4,f5,f6,f7⟩
  .cases f1
  .cases f1;refine .inr ⟨g,cap,QV,rfl,f2,f3,by omega,f5,f6,?_⟩;have:=congrArg (List.take ((dZ.filter gZ).length*7)) f7;rw[Pt,mN (jJ _ vW),xP,hT] at this;exact this
 .have bf:g=k:=by simpa [Value.ownBlock] using hk
  subst bf;exact⟨.inl (by simp[Value.ownBlock]),lu (lu hg hb.size) eV.size⟩
end Rm
