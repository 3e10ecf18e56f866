/-
  Shared texts of this claim.
-/
import Derived.Test.YtbemlocmcgcbdaaGreatDoorProg
import Derived.Test.YtbemlocmcgcbdaaGreatDoorKAI
import Derived.Sort.AssemblyPlain
import Derived.Test.YtbemlocmcgcbdaaGreatDoorKAA
import Derived.Sort.OwnSorted
import Derived.Lib.BitFns
import Derived.Shelf.GgSortFunc.RowK
import Derived.Shelf.Sort.Plain
import Derived.Ground.Names2Prog
import Derived.Shelf.Slices.Clone
import Derived.Shelf.Slices.CompactI
import Derived.Shelf.Slices.In.SortNone
import Derived.Ground.SlsfProg
import Derived.Ground.SlgfProg
import Derived.Shelf.SlSortCmp.Whole1
import Derived.Shelf.SlSortCmp.WholeK
import Derived.Shelf.SlicesQ.IndexFunc
import Derived.Shelf.SlSortCmp.NoneTotal
import Derived.Sort.OwnSortedInts
import Derived.Shelf.SlSortCmp.KitK
import Derived.Lib.SlKept
import Derived.Shelf.SlicesE.DeleteFunc
set_option linter.defProp false
set_option linter.unusedVariables false
set_option maxRecDepth 100000
noncomputable section
namespace Rm
open Go Go.Proofs Cx
abbrev I:Ty:=.int .i64
abbrev Y0:Ty:=.agg [.str,I,I,(.slice I),(.slice I),(.slice I)]
abbrev Y1:Ty:=.agg [I]
abbrev Y2:Ty:=.agg [.str,I,I]
abbrev Y3:Ty:=.agg [I,I,.bool]
abbrev Y4:Ty:=.agg [I,I,I,(.slice .trm)]
abbrev Y5:Ty:=.agg [.str,.bool,(.slice Y3),(.slice Y4)]
abbrev Y6:Ty:=.agg [I,I,I]
abbrev Y7:Ty:=.agg [I,I,I,I,I]
abbrev Y8:Ty:=.agg [(.slice .str),(.slice Y0),(.slice Y1),(.slice Y2),(.slice Y5),(.slice Y6),(.slice Y7),(.slice Y6)]
abbrev Y9:Ty:=.agg [I,I,I,I,I,I,I,I,I]
abbrev lD:Ty:=.agg [I,I]
abbrev eC:Ty:=.agg [I,I,I,I,I,I,I,I,I,I,I,I,I,I,I,(.slice Y9),(.slice lD),(.slice Y9),(.slice Y6)]
abbrev A8:Ty:=.agg [I,(.slice lD)]
abbrev Jr:Ty:=.agg [I,I,I,I,I,I,I,I,I,I,I,I,I,I,I]
abbrev lE:Ty:=.agg [.bool,I]
abbrev Ew:Ty:=.agg [.bool,I,I,(.slice I),I]
abbrev gS:Ty:=.agg [I,I,I,I,I,I,.bool]
abbrev uq:Ty:=.agg [I,I,(.slice .trm)]
abbrev sD:Ty:=.agg [I,I,I,I,I,I,I,I,I,I,I,I,I,I,I,(.slice Y9),(.slice lD),(.slice Y9),(.slice Y6),I,I,I,I,I]
abbrev Js:Ty:=.agg [(.slice .str),(.slice Y0),(.slice Y1),(.slice Y2),(.slice Y5),(.slice Y6),(.slice Y7),(.slice Y6),I,I,I,I,I,I,I,I,I,I,I,I,I,I,I,I,I,(.slice Y9),(.slice lD),(.slice Y9),(.slice Y6),I,I]
abbrev Y20:Ty:=.agg [(.slice lE)]
abbrev Y21:Ty:=.agg [(.slice I),I]
abbrev zzv (a:List Ty)(r:Ty):Sig:=⟨a,r,.dat⟩
def xu:List (Nat×Sig):=[
 (3,zzv [Y8,I,eC,I,A8,Y7,I,(.slice Y6)] .bool),
 (4,zzv [] .bool),
 (5,zzv [Y8,eC] .bool),
 (6,zzv [Y8] I),
 (7,zzv [Y8,eC] I),
 (8,zzv [eC,Y6] eC),
 (9,zzv [Y8,I,eC,I,A8] (.tup [Y6,I])),
 (10,zzv [Y8,I,eC,I,A8] (.tup [I,I])),
 (11,zzv [Y8,I,eC,I] I),
 (12,zzv [Y8,I,eC,I,I] (.slice I)),
 (13,zzv [Y7,Y6,I] I),
 (14,zzv [] Y7),
 (15,zzv [] (.slice Y6)),
 (16,zzv [Y7,(.slice Y6),I] (.tup [I,I])),
 (17,zzv [Y7,(.slice Y6),I] (.tup [(.slice I),I])),
 (18,zzv [Y7,(.slice Y6),I,(.slice I),(.slice Y6)] (.tup [(.slice Y6),I])),
 (19,zzv [Y7,(.slice Y6),I] (.tup [I,I])),
 (20,zzv [Y7,(.slice Y6),I] I),
 (21,zzv [(.slice I),(.slice I)] .bool),
 (22,zzv [Y8] .bool),
 (23,zzv [eC] .bool),
 (24,zzv [Y5] .bool),
 (25,zzv [Y8] I),
 (26,zzv [Y8] I),
 (27,zzv [Y8] I),
 (28,zzv [Y8] I),
 (29,zzv [Y8] I),
 (30,zzv [Y8,Jr] I),
 (31,zzv [Y8,eC,I] I),
 (32,zzv [I,I,I] .bool),
 (33,zzv [Y8,eC] I),
 (34,zzv [eC] I),
 (35,zzv [eC,I,I] lE),
 (36,zzv [Y8,I,eC,I,A8] (.tup [I,I])),
 (37,zzv [I,I,I] (.tup [I,I])),
 (38,zzv [eC,I] eC),
 (39,zzv [Ew] I),
 (40,zzv [Y8,I,I,eC,I] Ew),
 (41,zzv [Y8,Jr,I,I] (.tup [I,I])),
 (42,zzv [eC] I),
 (43,zzv [Y8,I] .bool),
 (44,⟨[Y8,(.slice gS),I],(.slice I),(.row 3 I)⟩),
 (45,⟨[Y8,I,eC,I],(.slice gS),(.row 145 gS)⟩),
 (46,zzv [Y7,(.slice Y6),I] I),
 (47,⟨[(.slice I),(.fn [I,I] I)],(.tup []),(.ob [(.obj 0 0),(.dat (.fn [I,I] I))] [(0,(.row 3 I))])⟩),
 (48,zzv [I,I,(.ref Y7),(.ref (.slice Y6)),(.ref I)] I),
 (49,⟨[(.slice I)],(.tup []),(.ob [(.obj 0 0)] [(0,(.row 3 I))])⟩),
 (50,zzv [(.slice I),I] .bool),
 (51,zzv [Y7] .bool),
 (52,zzv [I,I] .bool),
 (53,zzv [(.slice Y6),(.fn [Y6] .bool)] .bool),
 (54,zzv [Y6] .bool),
 (55,zzv [Y6] .bool),
 (56,zzv [uq] .bool),
 (57,zzv [(.slice .str),I] I),
 (58,zzv [Y8,Y0] .bool),
 (59,zzv [I,I,I] .bool),
 (60,zzv [Y5] .bool),
 (61,zzv [Y8] I),
 (62,zzv [I,I] .bool),
 (63,zzv [Jr] .bool),
 (64,zzv [Y8,I,I] (.tup [I,I])),
 (65,zzv [Y8,eC,I] .bool),
 (66,zzv [Y8,eC,Y9] .bool),
 (67,zzv [(.slice I)] I),
 (68,zzv [I,I] I),
 (69,zzv [A8] I),
 (70,⟨[(.slice gS),(.fn [gS,gS] I)],(.tup []),(.ob [(.obj 0 0),(.dat (.fn [gS,gS] I))] [(0,(.row 145 gS))])⟩),
 (71,zzv [gS,gS] I),
 (72,zzv [Y8,(.slice I),A8] I),
 (73,zzv [I,I] .bool),
 (74,zzv [I,I,I] (.tup [I,I,.bool])),
 (75,zzv [I,I] .bool),
 (76,zzv [Y8,I,I,sD] Ew),
 (77,zzv [Y8,I] .bool),
 (78,zzv [I] .bool),
 (79,zzv [Y6] .bool),
 (80,zzv [Y8,Jr,I] (.tup [I,I])),
 (81,zzv [Y8,I,I] (.tup [I,I])),
 (82,zzv [(.slice I)] I),
 (83,⟨[(.slice I)],(.slice I),(.ob [(.obj 0 0)] [(0,(.row 3 I)),(1,.tr)])⟩),
 (84,⟨[(.slice gS),(.fn [gS] .bool)],(.slice gS),(.ob [(.obj 0 0),(.dat (.fn [gS] .bool))] [(0,(.row 145 gS)),(1,.tr)])⟩),
 (85,⟨[Y8,I,eC,I],(.slice gS),(.row 145 gS)⟩),
 (86,zzv [gS] .bool),
 (87,⟨[(.slice I),I,(.fn [I,I] I)],(.tup []),(.ob [(.obj 0 0),(.dat I),(.dat (.fn [I,I] I))] [(0,(.row 3 I))])⟩),
 (90,zzv [(.slice I),I] I),
 (91,zzv [(.slice Y6),(.fn [Y6] .bool)] I),
 (92,zzv [uq,I,I] I),
 (93,zzv [.str] .bool),
 (94,zzv [(.slice .str),I,.str] .bool),
 (95,zzv [(.slice I),I,I] .bool),
 (96,zzv [Y8] (.tup [(.slice .str),(.slice .str),(.slice .str)])),
 (97,zzv [(.slice .str),I,(.fn [I] .bool)] I),
 (98,zzv [I] .bool),
 (99,zzv [I,(.ref Y8)] .bool),
 (100,zzv [Y8,Y0] .bool),
 (101,zzv [I,I] .bool),
 (102,zzv [I,(.ref Y8)] .bool),
 (103,zzv [I,(.ref Y8)] .bool),
 (104,zzv [Y5] .bool),
 (105,zzv [Y8] I),
 (106,zzv [Y8] I),
 (107,zzv [eC,I,(.slice I)] .bool),
 (108,zzv [eC,I,I] .bool),
 (109,zzv [I] .bool),
 (110,zzv [lD] .bool),
 (111,zzv [(.slice lD),(.fn [lD] .bool)] .bool),
 (113,⟨[(.slice I)],(.slice I),(.row 3 I)⟩),
 (114,⟨[(.slice I),(.fn [I,I] I)],(.tup []),(.ob [(.obj 0 0),(.dat (.fn [I,I] I))] [(0,(.row 3 I))])⟩),
 (115,zzv [I,I,(.ref Y8)] I),
 (116,zzv [(.int .u64),(.int .u64)] (.tup [(.int .u64),(.int .u64)])),
 (117,zzv [(.int .u64),(.int .u64),(.int .u64)] (.tup [(.int .u64),(.int .u64)])),
 (118,zzv [Y8,I,I,sD] (.tup [Ew,(.slice lE)])),
 (119,zzv [Y5,I,(.slice lE)] (.tup [lE,I])),
 (120,zzv [I,Y6] (.tup [I,I])),
 (121,zzv [Y8,I] I),
 (122,zzv [Y8,I,I] I),
 (123,zzv [Y0,I] (.tup [I,I])),
 (125,zzv [Y8,I,eC,I] Js),
 (126,zzv [Js,I] gS),
 (127,⟨[(.slice I),I,I,(.fn [I,I] I)],(.tup []),(.ob [(.obj 0 0),(.dat I),(.dat I),(.dat (.fn [I,I] I))] [(0,(.row 3 I))])⟩),
 (128,⟨[(.slice I),I,I,I,(.fn [I,I] I)],(.tup []),(.ob [(.obj 0 0),(.dat I),(.dat I),(.dat I),(.dat (.fn [I,I] I))] [(0,(.row 3 I))])⟩),
 (139,zzv [(.int .u64)] I),
 (140,zzv [(.int .u8)] .bool),
 (141,zzv [(.slice .str),I] I),
 (142,zzv [(.slice I),I,I] .bool),
 (143,zzv [(.slice lD),(.fn [lD] .bool)] I),
 (153,zzv [(.int .u64)] I),
 (154,zzv [Y8,sD] (.tup [sD,(.slice lE)])),
 (155,zzv [I] (.tup [I,.bool])),
 (156,zzv [Y8,I,sD] (.nsl I)),
 (157,zzv [Y8,I,I,(.slice I)] (.tup [(.slice I),I])),
 (158,zzv [Y5,I] (.tup [uq,I])),
 (159,zzv [uq,(.slice lE)] lE),
 (160,zzv [I,I] (.tup [I,I])),
 (161,zzv [I] .bool),
 (162,zzv [Y0,I,I] (.fn [(.fn [I] .bool)] (.tup []))),
 (163,zzv [Ew] I),
 (164,zzv [eC,I,I] .bool),
 (165,zzv [(.slice I)] I),
 (166,zzv [Js,I,I] I),
 (167,zzv [Js,I] (.tup [I,I])),
 (174,zzv [.str] .bool),
 (175,zzv [(.slice .str),.str] .bool),
 (186,zzv [Y8,sD] (.slice lE)),
 (187,zzv [Y8,I,I,(.slice I)] .bool),
 (188,zzv [Y8,I,I,(.slice I)] (.tup [I,.bool])),
 (189,zzv [(.slice Y4),(.fn [Y4] .bool)] I),
 (190,zzv [Y4,(.ref I)] .bool),
 (191,zzv [uq] (.tup [I,I])),
 (192,zzv [Y20,uq] (.tup [lE,(.slice I)])),
 (193,zzv [I] (.tup [I,I,I])),
 (194,zzv [I,I,I] (.tup [I,I])),
 (195,zzv [I,I] I),
 (197,zzv [Y0,I] .bool),
 (198,zzv [eC,I] (.map I .bool)),
 (199,zzv [eC,I] I),
 (202,zzv [(.slice .str),.str] I),
 (207,zzv [(.slice lD),(.fn [lD] .bool)] .bool),
 (208,zzv [lD,(.ref sD)] .bool),
 (209,zzv [.bool] lE),
 (210,zzv [eC,I,I] lE),
 (211,zzv [(.slice I),(.fn [I] .bool)] .bool),
 (212,zzv [I,(.ref I)] .bool),
 (213,zzv [uq,I] I),
 (214,zzv [uq] (.tup [I,I])),
 (215,zzv [Y20,I] lE),
 (216,zzv [I,(.slice lE)] lE),
 (217,zzv [(.slice (.slice I))] (.slice I)),
 (218,zzv [I,I,I] I),
 (220,zzv [(.slice lD),(.fn [lD] .bool)] I),
 (221,zzv [(.slice I),(.fn [I] .bool)] I),
 (222,zzv [uq] (.tup [I,I])),
 (223,zzv [I] Y21),
 (224,zzv [I] (.tup [I,.bool])),
 (225,zzv [.bool] lE),
 (226,zzv [I] I),
 (227,zzv [I,I,I] I),
 (228,⟨[.nils .bool,I],(.slice I),(.row 3 I)⟩),
 (229,zzv [I,I] I)]
def QT:List (Nat×CSig):=[
 (48,⟨[(.ref Y7),(.ref (.slice Y6)),(.ref I)],[I,I],I⟩),
 (54,⟨[],[Y6],.bool⟩),
 (71,⟨[],[gS,gS],I⟩),
 (86,⟨[],[gS],.bool⟩),
 (98,⟨[],[I],.bool⟩),
 (99,⟨[(.ref Y8)],[I],.bool⟩),
 (102,⟨[(.ref Y8)],[I],.bool⟩),
 (103,⟨[(.ref Y8)],[I],.bool⟩),
 (110,⟨[],[lD],.bool⟩),
 (115,⟨[(.ref Y8)],[I,I],I⟩),
 (190,⟨[(.ref I)],[Y4],.bool⟩),
 (196,⟨[(.ref I),(.ref I),(.ref Y0)],[(.fn [I] .bool)],(.tup [])⟩),
 (208,⟨[(.ref sD)],[lD],.bool⟩),
 (212,⟨[(.ref I)],[I],.bool⟩)]
noncomputable def ctx:Ctx:={P:=Tryz.prog,cap:=bI QT,sig:=bI xu,axo:=λ_=>none,glob:=O0 2 [6,7,10,12,13,14,15,16,20,21]}
abbrev OO (i:Nat):Sig:=(bI xu i).getD default
def cF (a b:List Nat)(f:Func)(i:Nat)(l:List Nat):Option PC:=mQ {ctx with fr:=a,nh:=b} f (OO i) l
def aT {o:Option PC}{t:PT}{l:List (Shp×PT)}(h:o.map told=some (t,l)):tree (ab o)=t:=bH (F:=λ_=>(t,l)) h
def ak (o:Option PC){p:PT×List (Shp×PT)}(h:o.map told=some p):o=some (ab o):=aBb (F:=λ_=>p) h
def aw (l a b:List Nat){f:Nat}{fn:Func}{c:PC}(h0:ctx.P.funcs[f]?=some fn)(h1:ctx.sig f=some (OO f))(h2:mQ {ctx with fr:=a,nh:=b} fn (OO f) l=some c):∃fn s ids fr nh,ctx.P.funcs[f]?=some fn/\ctx.sig f=some s/\mQ {ctx with fr:=fr,nh:=nh} fn s ids=some c:=⟨fn,OO f,l,a,b,h0,h1,h2⟩
abbrev Ah:PE:=.ai .quo .i64 (bf (aA (bf (.ai .rem .i64 (aA r0 (pi 730425)) (pi 146097)) (.ai .quo .i64 (.ai .rem .i64 (aA r0 (pi 730425)) (pi 146097)) (pi 1460))) (.ai .quo .i64 (.ai .rem .i64 (aA r0 (pi 730425)) (pi 146097)) (pi 36524))) (.ai .quo .i64 (.ai .rem .i64 (aA r0 (pi 730425)) (pi 146097)) (pi 146096))) (pi 365)
abbrev lb:PE:=.con (.v (.string ⟨#[0,1,2,2,3,3,3,3,4,4,4,4,4,4,4,4,5,5,5,5,5,5,5,5,5,5,5,5,5,5,5,5,6,6,6,6,6,6,6,6,6,6,6,6,6,6,6,6,6,6,6,6,6,6,6,6,6,6,6,6,6,6,6,6,7,7,7,7,7,7,7,7,7,7,7,7,7,7,7,7,7,7,7,7,7,7,7,7,7,7,7,7,7,7,7,7,7,7,7,7,7,7,7,7,7,7,7,7,7,7,7,7,7,7,7,7,7,7,7,7,7,7,7,7,7,7,7,7,8,8,8,8,8,8,8,8,8,8,8,8,8,8,8,8,8,8,8,8,8,8,8,8,8,8,8,8,8,8,8,8,8,8,8,8,8,8,8,8,8,8,8,8,8,8,8,8,8,8,8,8,8,8,8,8,8,8,8,8,8,8,8,8,8,8,8,8,8,8,8,8,8,8,8,8,8,8,8,8,8,8,8,8,8,8,8,8,8,8,8,8,8,8,8,8,8,8,8,8,8,8,8,8,8,8,8,8,8,8,8,8,8,8,8,8,8,8,8,8,8,8,8,8,8,8,8,8]⟩))
abbrev Ao:PE:=.ai .or .u64 (.ai .shl .u64 r0 (.conv .u64 oY)) (.ai .shr .u64 r1 (.ai .sub .u64 (.con (.v (.int .u64 64))) (.conv .u64 oY)))
abbrev gf:PE:=.con (.agg [(.bool false),(.int 0)])
abbrev tL:PE:=.ai .sub .u64 (.ai .add .u64 (.ai .mul .u64 bL (.con (.v (.int .u64 4294967296)))) dh) (.ai .mul .u64 dt r2)
abbrev vk:PE:=.con (.agg [(.int 0),(.int 0),(.int 0),(.int 0),(.int 0),(.int 0),(.int 0),(.int 0),(.int 0),(.int 0),(.int 0),(.int 0),(.int 0),(.int 0),(.int 0),(.list []),(.list []),(.list []),(.list [])])
abbrev rO:PE:=.ai .shr .u64 (.ai .shl .u64 r2 (.conv .u64 oY)) (.con (.v (.int .u64 32)))
abbrev NZ:PE:=.ai .quo .i64 (aA (.ai .mul .i64 (pi 5) (bf (.ai .rem .i64 (aA r0 (pi 730425)) (pi 146097)) (bf (aA (.ai .mul .i64 (pi 365) Ah) (.ai .quo .i64 Ah (pi 4))) (.ai .quo .i64 Ah (pi 100))))) (pi 2)) (pi 153)
abbrev tO:PE:=.deref (.con (.ref (.agg [(.int 6),(.int 7),(.int 10),(.int 12),(.int 13),(.int 14),(.int 15),(.int 16),(.int 20),(.int 21)])))
abbrev lX:PE:=.setc z3 0 (.mk [(pc (.mk [r0]) 5),(pc (.mk [r0]) 6),(pc (.mk [r0]) 7)])
abbrev NB:PE:=.put (.put (.put (.put (.con (.map [])) (pi 7) (aF (.ai .and .i64 (pc o6 13) (pi 1)) (pi 0))) (pi 8) (peq (pc o6 2) (pi (-1)))) (pi 9) (aF (.ai .and .i64 (pc o6 13) (pi 4)) (pi 0))) (pi 10) (aF (.ai .and .i64 (pc o6 13) (pi 2)) (pi 0))
abbrev la:PE:=.con (.v (.int .u64 4294967296))
abbrev V0:PE:=.mk [(pc (.mk [r0]) 10),(pc (.mk [r0]) 11),(pc (.mk [r0]) 12),(pc (.mk [r0]) 13),(pc (.mk [r0]) 14),(pc (.mk [r0]) 15),(pc (.mk [r0]) 16),(pc (.mk [r0]) 17),(pc (.mk [r0]) 18),(pc (.mk [r0]) 19),(pc (.mk [r0]) 20),(pc (.mk [r0]) 21),(pc (.mk [r0]) 22),(pc (.mk [r0]) 23),(pc (.mk [r0]) 24),(pc (.mk [r0]) 25),(pc (.mk [r0]) 26),(pc (.mk [r0]) 27),(pc (.mk [r0]) 28)]
abbrev xc:PE:=.con (.v (.int .u64 32))
abbrev ns:PE:=.con (.agg [(.int 0),(.int 0),(.list [])])
abbrev DD:PE:=.con (.agg [(.int 0),(.int 0),(.int 0),(.int 0),(.int 0),(.int 0),(.bool false)])
abbrev V6:PE:=.con (.agg [(.list []),(.list []),(.list []),(.list []),(.list []),(.list []),(.list []),(.list []),(.int 0),(.int 0),(.int 0),(.int 0),(.int 0),(.int 0),(.int 0),(.int 0),(.int 0),(.int 0),(.int 0),(.int 0),(.int 0),(.int 0),(.int 0),(.int 0),(.int 0),(.list []),(.list []),(.list []),(.list []),(.int 0),(.int 0)])
abbrev cj:PE:=pi 4294967296
abbrev mu:PE:=.con (.agg [(.list []),(.int 0)])
abbrev An:PE:=.con (.v (.int .u64 4294967295))
abbrev qg:PE:=.setc z9 0 (pn (pc (.mk [r1]) 15) r2)
abbrev DE:PE:=.mk [(pc (.setc gf 0 dx) 0),(pc (.setc gf 0 dx) 1)]
abbrev DF:PE:=.setc z9 0 (pn (pc (.mk [r2]) 15) (pc (.mk [r2]) 19))
abbrev kB:PE:=.setc (.mk [r3]) 18 pL
abbrev rL:PE:=.conv .u64 oY
abbrev V7:PE:=.put (.put (.put (.con (.map [])) (pi 0) (pc o6 3)) (pi 1) (pc o6 14)) (pi 2) (pc o6 5)
abbrev NN:PE:=.pick (.pick (peq (.tget il 0) (pi 0)) (pc bG 0) pF) (.setc bG 1 (.mn (.mx (pc bG 1) (pi 0)) (pi 20000))) bG
abbrev Hg:PE:=.mk [(pc (.setc o4 0 (.mk [pF,(pi 0)])) 0),(pc (.setc o4 0 (.mk [pF,(pi 0)])) 1)]
abbrev DG:PE:=.con (.agg [(.bool false),(.int 0),(.int 0),(.list []),(.int 0)])
abbrev mw:PE:=.tget (.o 1000000013) 1
abbrev NO:PE:=.con (.agg [(.int 0),(.int 0),(.bool false)])
abbrev NP:PE:=.ai .shr .u64 (.ai .sub .u64 (.ai .add .u64 (.ai .mul .u64 jn la) bU) (.ai .mul .u64 cE r2)) r8
abbrev jW:PE:=pc (.mk [r0]) 0
abbrev Ap:PE:=.setc (.setc bG 3 (.tget Hr 0)) 4 (.tget Hr 1)
abbrev vh:PE:=.ai .shr .u64 r0 xc
abbrev jX:PE:=ar 8 (.mk [r0])
abbrev NQ:PE:=.con (.v (.int .u64 16))
abbrev qh:PE:=.con (.v (.int .u64 8))
abbrev Hh:PE:=pc (.mk [r0]) 2
abbrev NR:PE:=aA (bf (aA (.ai .mul .i64 (pi 12) (.tget gI 0)) (.tget gI 1)) (pi 1)) r1
abbrev ai7:PE:=.con (.agg [(.int 0),(.int 0),(.int 0),(.int 0),(.int 0),(.int 0),(.int 0),(.int 0),(.int 0),(.int 0),(.int 0),(.int 0),(.int 0),(.int 0),(.int 0),(.list []),(.list []),(.list []),(.list []),(.int 0),(.int 0),(.int 0),(.int 0),(.int 0)])
abbrev vi:PE:=.setc z3 0 (pn (pc o2 18) r8)
abbrev vj:PE:=.setc z3 0 (pn (pc o2 18) r6)
abbrev kC:PE:=.setc o2 18 pN
abbrev oV:PE:=pc (.mk [r0]) 1
abbrev V8:PE:=.pick (ba cE la) pT (aR (.ai .mul .u64 cE dg) (.ai .add .u64 (.ai .mul .u64 la cU) bU))
abbrev V9:PE:=.pick (ba dt la) pT (aR (.ai .mul .u64 dt dg) (.ai .add .u64 (.ai .mul .u64 la cU) dh))
abbrev my:PE:=.llen (pc o1 1)
abbrev Wa:PE:=.mk [(pc (.setc o4 0 (.mk [(pi 0),(pi 0),pL])) 0),(pc (.setc o4 0 (.mk [(pi 0),(pi 0),pL])) 1),pL]
abbrev NS:PE:=.ai .sub .u64 Ao (.ai .mul .u64 (.ai .quo .u64 Ao rO) rO)
abbrev NT:PE:=.ai .sub .u64 tL (.ai .mul .u64 (.ai .quo .u64 tL r9) r9)
abbrev DH:PE:=.setc z3 0 (pn bY bU)
abbrev NU:PE:=ba (.ai .sub .u64 (.con (.v (.int .u64 64))) rL) (pi 0)
abbrev NV:PE:=.setc z2 0 (pn (pc o5 1) (pc (pn (pc o3 2) (pn o1 cE)) 0))
abbrev oW:PE:=.llen (pc o1 3)
abbrev rM:PE:=pi 1099511627776
abbrev Wb:PE:=ar 5 (.setc o8 0 (.mk [(pc bG 0),(pc bG 1),(pc bG 2),(.o 16394),(pc bG 4)]))
abbrev Wc:PE:=.mk [(pc (.setc o6 0 (.mk [pF,(pi 0)])) 0),(pc (.setc o6 0 (.mk [pF,(pi 0)])) 1)]
abbrev oX:PE:=aA r8 (pi 1)
abbrev qj:PE:=.llen (pc o3 2)
abbrev qk:PE:=.llen (pc o1 4)
abbrev ai8:PE:=.pick (.pick (peq (.tget fN 0) (.con (.v (.int .u64 0)))) (ah (.tget fN 1) (.con (.v (.int .u64 1099511627776)))) pF) (.conv .i64 (.tget fN 1)) rM
abbrev ai9:PE:=.pick (.pick (.pick (ah (pc DF 2) (pi 0)) pT (ba (pc DF 2) (.llen (pc (.mk [r0]) 3)))) pT (ah r1 (pi 0))) pT (ba r1 (.llen (pc (.mk [r0]) 4)))
abbrev rN:PE:=pc (.mk [r0]) 15
abbrev Wd:PE:=.put (.con (.map [])) (pi 7) (aF (.ai .and .i64 (pc o6 13) (pi 1)) (pi 0))
abbrev Hi:PE:=.ai .shl .u64 r2 rL
abbrev aja:PE:=.ai .shl .u64 r1 rL
abbrev ajb:PE:=.ai .add .u64 (.ai .mul .u64 vh (.ai .and .u64 r1 An)) (.ai .shr .u64 (.ai .mul .u64 (.ai .and .u64 r0 An) (.ai .and .u64 r1 An)) xc)
abbrev Hj:PE:=.setc z9 0 (pn (pc (.mk [r0]) 25) r1)
abbrev tM:PE:=pn dg bY
abbrev ajc:PE:=.app o2 (.lst [(pc (.setc (.con (.agg [(.v (.string ⟨#[]⟩)),(.int 0),(.int 0),(.list []),(.list []),(.list [])])) 0 (pn bY bU)) 0)])
abbrev Hk:PE:=bf (pi 2) (pc (pn o7 (pi 0)) 1)
abbrev Aq:PE:=.setc z3 0 (pn r7 fN)
abbrev NW:PE:=.setc ns 0 (.sub (pn (pc o2 3) gI) 1 3)
abbrev tN:PE:=.llen (pc o1 2)
abbrev NX:PE:=.ai .add .u64 (.ai .mul .u64 dt la) cE
abbrev NY:PE:=.pick (ah r1 (pi 3)) (bf r0 (pi 1)) r0
abbrev ajd:PE:=.app o4 (.lst [(pc (.setc (.con (.agg [(.v (.string ⟨#[]⟩)),(.bool false),(.list []),(.list [])])) 0 (pn jY rT)) 0)])
abbrev aje:PE:=.put (.put (.put NB (pi 11) (aF Wi Wj)) (pi 12) dh) (pi 13) (aF (.ai .and .i64 (pc o8 8) (pi 1)) (pi 0))
abbrev N0:PE:=.mk [(pc zV 0),(pc zV 1),(pc zV 2)]
abbrev rP:PE:=pn r1 (pi 1)
abbrev xd:PE:=pi 1000000000
abbrev We:PE:=.put (.put V7 (pi 3) (pc o6 12)) (pi 4) (pc o8 0)
abbrev ajf:PE:=.pick (aR (.llen (pc (pn (pc o1 1) r3) 4)) (pi 70)) pT (aR (.llen (pc (pn (pc o1 1) r3) 5)) (pi 210))
abbrev rQ:PE:=ah bU dh
abbrev Hl:PE:=.setc NO 0 (pn gI gh)
abbrev rR:PE:=.llen Hh
abbrev ajg:PE:=.app o3 (.lst [(pc (.setc (.con (.agg [(.v (.string ⟨#[]⟩)),(.int 0),(.int 0)])) 0 (pn gh dx)) 0)])
abbrev ajh:PE:=.app o4 (.lst [(pc (.setc (.con (.agg [(.int 0),(.int 0),(.int 0),(.list [])])) 0 (pn dx nu)) 0)])
abbrev xe:PE:=pc (.mk [r0]) 5
abbrev xf:PE:=.llen (pc o1 0)
abbrev aji:PE:=.an (.cb .eql (pc (pn r1 (pi 0)) 0) (pc DE 0)) (.an (peq (pc (pn r1 (pi 0)) 1) (pc DE 1)) pT)
abbrev ajj:PE:=.app (.o 69637) (.lst [(.mk [(pc (.setc z2 0 (pn pf pg)) 0),(pc (.setc z2 0 (pn pf pg)) 1)])])
abbrev Hm:PE:=.ai .shr .u64 vh NQ
abbrev DI:PE:=.ai .add .u64 cU r9
abbrev Wf:PE:=.setc o4 0 (.mk [(pc o9 0),(pc o9 1),(pc o9 2)])
abbrev Wg:PE:=.setc (.setc o6 4 (.tget fl 0)) 5 (.tget fl 1)
abbrev N1:PE:=peq r0 (.con (.v (.int .u64 0)))
abbrev ajk:PE:=.pick (.nt (.nt (.an (.an bU pT) (.nt pF)))) (.app (.o 1000) (.lst [(.tup [r5])])) (.o 1000)
abbrev w9:PE:=bf r9 (pi 1)
abbrev xb:PE:=aA r3 (pi 1)
abbrev Dv:PE:=aF (pi 100) (pi 0)
abbrev tJ:PE:=ah bY bL
abbrev aiW:PE:=.pick (aR (aA NZ (pi 3)) (pi 12)) (bf (aA NZ (pi 3)) (pi 12)) (aA NZ (pi 3))
abbrev Ai:PE:=.llen (pc o2 18)
abbrev aiX:PE:=.setc o4 0 (.mk [(pc (.setc gf 0 (.tget gH 0)) 0),(pc (.setc gf 0 (.tget gH 0)) 1)])
abbrev Hc:PE:=.setc z9 0 (pn Hq iu)
abbrev Hd:PE:=.llen (pc (.mk [r0]) 4)
abbrev NA:PE:=pc (.setc z3 0 (pn gI gh)) 1
abbrev NC:PE:=.setc gf 0 (.mk [pT,(pi 1)])
abbrev ND:PE:=.setc gf 0 (.mk [pT,(pi 0)])
abbrev NF:PE:=bf (.llen (pc o3 3)) (pi 1)
abbrev Aj:PE:=pn (pc o1 4) r4
abbrev VU:PE:=peq (.sidx r0 r3) (.con (.v (.int .u8 95)))
abbrev Ak:PE:=aA bY (pi 1)
abbrev aiY:PE:=aA (.ai .mul .i64 (.ai .rem .i64 (bf (pc vb 5) dt) xd) (bf xd pf)) bU
abbrev aiZ:PE:=.pick (.pick (peq (pc DH 0) r1) (bz (pc DH 1) r2) pF) (bz r2 (pc DH 2)) pF
abbrev Al:PE:=.llen (pc o1 7)
abbrev He:PE:=.con (.agg [(.int 0)])
abbrev Hf:PE:=.ai .shr .u64 r0 NQ
abbrev ai0:PE:=aA Ah (.ai .mul .i64 (pi 400) (.ai .quo .i64 (aA r0 (pi 730425)) (pi 146097)))
abbrev tK:PE:=pn bU cU
abbrev Dw:PE:=ar 19 (.mk [r2])
abbrev VV:PE:=.mk [(pc (.mk [r4]) 0),(pc (.mk [r4]) 1)]
abbrev VW:PE:=.app o5 (.lst [(pc (pn (pc o1 1) r6) 0)])
abbrev VX:PE:=.app o4 (.lst [(pc (pn (pc o1 3) r5) 0)])
abbrev Am:PE:=aA r5 (pi 1)
abbrev VY:PE:=.setc bG 0 (.mk [(pi 0),(pi 0),(pi 0)])
abbrev VZ:PE:=.setc bG 0 (.mk [dx,tR,(.llen lY)])
abbrev Dx:PE:=ba xc (pi 0)
abbrev Dy:PE:=ar 5 (.mk [r0])
abbrev Dz:PE:=.setc z3 0 tM
abbrev ai1:PE:=.pick (aR (.tget nu 1) (pi 0)) (aA (.tget nu 0) (pi 1)) (.tget nu 0)
abbrev V3:PE:=.setc DD 0 (.sub (pn oT rS) 0 7)
abbrev NG:PE:=.con (.v (.int .u64 256))
abbrev NH:PE:=.ai .shr .u64 aja xc
abbrev NI:PE:=.ai .and .u64 aja An
abbrev NJ:PE:=.ai .and .u64 Hi An
abbrev DA:PE:=pc (.mk [r1]) 0
abbrev V4:PE:=.pick (ba r0 (pi 0)) (ah r0 r1) pF
abbrev DB:PE:=.llen (pc o4 0)
abbrev DC:PE:=.llen (pc o1 5)
abbrev ai2:PE:=.setc o4 0 (.mk [(pc (.setc gf 0 Hx) 0),(pc (.setc gf 0 Hx) 1)])
abbrev ai3:PE:=.setc o4 0 (.mk [(pc (.setc gf 0 kE) 0),(pc (.setc gf 0 kE) 1)])
abbrev ai4:PE:=.setc mu 0 (.mk [(.lst [(pi 1),(pi (-1)),(pi (-1))]),(pi (-1))])
abbrev ai5:PE:=.pick (aF (pc o3 22) (pi (-1))) (bf (pc o8 6) (pc o3 22)) (pi 0)
abbrev NK:PE:=.mk [jW,oV,Hh]
abbrev NL:PE:=.con (.v (.int .u64 1))
abbrev ai6:PE:=.app o7 (.lst [(pc (pn (pc o3 3) (pc (.setc DD 0 tM) 2)) 2)])
abbrev V5:PE:=.ai .rem .i64 (pn r8 dg) (pi 100)
abbrev NM:PE:=.ai .quo .u64 Ao rO
end Rm
set_option linter.unusedSimpArgs false
namespace Rm
open Go Cx Go.Sort
def wU (key:D->Int)(xs:List D){n:Nat}(i j:Fin n):Bool:=decide (key (xs.getD i .none)-key (xs.getD j .none)<0)
def pk (key:D->Int)(xs:List D)(n:Nat):Array (Fin (n+1)):=pdq (wU key xs) (Array.ofFn id) 0 (n+1) (Lib.bitLen (n+1)) true true
def gO (key:D->Int)(xs:List D):List D:=
 match xs.length with
 |0=>[]
 |n+1=>(pk key xs n).toList.map λi:Fin (n+1)=>xs.getD i .none
def XS (key:D->Int)(xs:List D)(n:Nat):SWO (wU key xs (n:=n)) where
 irrefl x:=by simp[wU]
 trans x y z h1 h2:=by simp[wU] at*;omega
 ntrans x y z h1 h2:=by simp[wU] at*;omega
def XN (key:D->Int)(xs:List D)(n:Nat):PermIn 0 (n+1) (Array.ofFn (id:Fin (n+1)->Fin (n+1))) (pk key xs n)/\SortedIn (wU key xs) 0 (n+1) (pk key xs n):=by
 have h:=pdq_sorts (wU key xs (n:=n+1)) (XS key xs (n+1)) (Array.ofFn id) 0 (n+1) (Lib.bitLen (n+1)) true true (kf _) (by simp) (Or.inl rfl);exact⟨h.1,h.2⟩
def agN {xs:List D}{n:Nat}(h:xs.length=n):(Array.ofFn (id:Fin n->Fin n)).toList.map (λi:Fin n=>xs.getD i .none)=xs:=by
 apply PA
 .simp[h]
 .intro i h1 h2;simp[h2]
def OV (key:D->Int)(xs:List D)(n:Nat):(pk key xs n).size=n+1:=by
 have:=(XN key xs n).1.1;simpa using this
def se (key:D->Int)(xs:List D):(gO key xs).Perm xs:=by
 unfold gO;split
 .rename_i h;rw[vH.1 h]
 .rename_i n h;have h1:=(XN key xs n).1.2.2;have hz:=OV key xs n;have e1:(pk key xs n).extract 0 (n+1)=pk key xs n:=by
   apply Array.ext
   .simp[hz]
   .intro i h1 h2;simp
  have e2:(Array.ofFn (id:Fin (n+1)->Fin (n+1))).extract 0 (n+1)=Array.ofFn id:=by simp
  rw[e1,e2] at h1;have h2:=h1.map λi:Fin (n+1)=>xs.getD i .none;rw[agN h] at h2;exact h2
def akh (key:D->Int)(xs:List D):(gO key xs).Pairwise λa b=>key a<=key b:=by
 unfold gO;split
 .exact .nil
 .rename_i n h;have h1:=(XN key xs n).2;have hz:=OV key xs n;rw[Jh,PH];intro i j hi hj dC;have dB:i<(pk key xs n).size:=by simpa using hi
  have bA:j<(pk key xs n).size:=by simpa using hj
  have h2:=h1 i j (kf _) dC (by omega);rw[getElem!_pos _ i dB,getElem!_pos _ j bA] at h2;simp[wU] at h2;simp;omega
def Fz {α:Type}{f:α->List Value}{k:Nat}(hk:∀x,(f x).length=k):∀(l:List α) (i j:Nat) (x:α),l[i]?=some x->j<k->(l.flatMap f)[i*k+j]?=(f x)[j]?
 |[],i,j,x,h,_=>by simp at h
 |y::l,0,j,x,h,hj=>by
  simp at h;subst h;rw[vF,Nat.zero_mul,ke,nH (by rw[hk];exact hj)]
 |y::l,i+1,j,x,h,hj=>by
  rw[vF,nI (by rw[hk,ka];omega),hk,show(i+1)*k+j-k=i*k+j by rw[ka];omega];exact Fz hk l i j x (by simpa using h) hj
def FA {α:Type}{f:α->List Value}{k:Nat}(hk:∀x,(f x).length=k)(l:List α):(l.flatMap f).length=l.length*k:=by
 induction l with
 |nil=>simp
 |cons x l ih=>rw[vF,mG,ih,hk,px,ka];omega
def Cu {α:Type}[Inhabited α]{enc:α->List Value}{k:Nat}(hk:∀x,(enc x).length=k)(d:Array α):(flatK enc k d).toList=d.toList.flatMap enc:=by
 apply vE;intro t;by_cases ht:t<d.size*k
 .have k0:0<k:=by rcases Eu k with h|h;·subst h;simp at ht
                  .exact h
  have hi:t/k<d.size:=(xZ k0).2 ht;have hm:t%k<k:=qG _ k0;have e:=Fz hk d.toList (t/k) (t%k) d[t/k] (by simp[hi]) hm;rw[show t/k*k+t%k=t by rw[x9];exact A6 t k] at e;rw[e];have h1:=get_flatK enc k d t ht;have hl:(enc d[t/k]).length=k:=hk _;rw[getElem!_pos _ t (by simpa using ht),getElem!_pos d _ hi,getElem!_pos _ (t%k) (by rw[hl];exact hm)] at h1;rw[qx,jF (by simpa using ht),h1,aY (by rw[hl];exact hm)]
 .rw[j7 (by simp;omega),j7 (by rw[FA hk];simp;omega)]
def arL {α:Type}[Inhabited α]{enc:α->Value}{w:World}{g n:Nat}{os:Array Obj}{cur:Array Value}{e:TypeId}{fr:Nat×Nat}(d:Array α)(hb:w.heap[g]?=some (.cells cur e fr)):
 (grow (putRow enc (Sort.ahead w n) g 0 d) os).heap[g]?=some (.cells (putCells enc 0 d cur) e fr):=by
 have hg:g<w.heap.size:=(eA.1 hb).1;rw[heap_grow_old _ _ (by simpa using hg)];simp[putRow,mapBlock,Sort.ahead,Pq,hb,onCells]
def RL {α:Type}[Inhabited α]{enc:α->Value}{w:World}{g n:Nat}{os:Array Obj}(d:Array α):w.grownBy (grow (putRow enc (Sort.ahead w n) g 0 d) os) (some g):=by
 refine⟨rfl,rfl,rfl,by simp,λk hk ay=>?_⟩;rw[heap_grow_old _ _ (by simpa using hk)];have:g≠k:=λe=>ay (by rw[e]);simp[putRow,mapBlock,Sort.ahead,Pq,this]
def aAX {α:Type}[Inhabited α]{enc:α->Value}(cur:Array Value)(d:Array α)(h:d.size<=cur.size):(putCells enc 0 d cur).toList.take d.size=d.toList.map enc:=by
 apply vE;intro j;by_cases hj:j<d.size
 .rw[Eo hj,qx];simp[putCells,hj,show j<cur.size by omega]
 .rw[abd (by omega),j7 (by simp;omega)]
def aiA {α:Type}[Inhabited α]{enc:α->Value}{w:World}{base g cap n m k:Nat}{e:TypeId}{os:Array Obj}{cur:Array Value}{d:Array α}(hd:d.size=m*k)(art:base<=g)(hb:w.heap[g]?=some (.cells cur e (0,0)))
 (h1:m<=cap) (h2:cap<=maxLen) (h3:cur.size=cap*k):
 (grow (putRow enc (Sort.ahead w n) g 0 d) os).ownsRow base e k (.slice (some ⟨g,0,none⟩) m cap) m (d.toList.map enc):=
 ⟨by simp[hd],.inr ⟨g,cap,_,rfl,art,arL d hb,h1,h2,by simp[putCells,h3],by rw[<-hd];exact aAX cur d (by rw[hd,h3];exact kc _ h1)⟩⟩
end Rm
namespace Rm
open Go Go.Proofs Cx Go.RowKit
abbrev tI:Ty:=.int .i64
abbrev tE:Ty:=.agg [tI,tI,tI,tI,tI,tI,.bool]
def bP (d:D):List Value:=[.int .i64 (d.c 0).i,.int .i64 (d.c 1).i,.int .i64 (d.c 2).i,.int .i64 (d.c 3).i,.int .i64 (d.c 4).i,.int .i64 (d.c 5).i,.bool (d.c 6).b]
def oe (d:D):(bP d).length=7:=rfl
def AY (n:Int):Prop:=IntKind.i64.min<=n/\n<=IntKind.i64.max
def vC (d:D):Prop:=∃(a b c e f g:Int) (h:Bool),d=.agg [.int a,.int b,.int c,.int e,.int f,.int g,.bool h]/\AY a/\AY b/\AY c/\AY e/\AY f/\AY g
def vC.of_rep {cap:Nat->Option CSig}{V:Im}{v:Value}{d:D}(h:Rep cap V tE v d):vC d/\v=.agg (bP d).toArray:=by
 obtain⟨vs,ds,rfl,rfl,h1,h2,h3,_⟩:=h.agg_inv
 match vs,ds,h1,h2 with
 |[x0,x1,x2,x3,x4,x5,x6],[a0,a1,a2,a3,a4,a5,a6],_,_=>
  obtain⟨n0,e0,f0,g0⟩:=(h3 0 _ rfl).int_inv;obtain⟨n1,e1,f1,g1⟩:=(h3 1 _ rfl).int_inv;obtain⟨n2,e2,f2,g2⟩:=(h3 2 _ rfl).int_inv;obtain⟨n3,e3,f3,g3⟩:=(h3 3 _ rfl).int_inv;obtain⟨n4,e4,f4,g4⟩:=(h3 4 _ rfl).int_inv;obtain⟨n5,e5,f5,g5⟩:=(h3 5 _ rfl).int_inv;obtain⟨b,e6,f6⟩:=(h3 6 _ rfl).bool_inv;simp only[qD,A0] at e0 f0 e1 f1 e2 f2 e3 f3 e4 f4 e5 f5 e6 f6;subst e0 f0 e1 f1 e2 f2 e3 f3 e4 f4 e5 f5 e6 f6;exact⟨⟨n0,n1,n2,n3,n4,n5,b,rfl,g0,g1,g2,g3,g4,g5⟩,rfl⟩
def vC.rep {cap:Nat->Option CSig}{V:Im}{d:D}(h:vC d):Rep cap V tE (.agg (bP d).toArray) d:=by
 obtain⟨a,b,c,e,f,g,h,rfl,h1,h2,h3,h4,h5,h6⟩:=h;refine .agg [tI,tI,tI,tI,tI,tI,.bool] [.int .i64 a,.int .i64 b,.int .i64 c,.int .i64 e,.int .i64 f,.int .i64 g,.bool h] _ rfl rfl (λi t hi=>?_) (λi t hi=>?_)
 .match i,hi with
  |0,hi=>cases hi;exact .int _ _ h1.1 h1.2
  |1,hi=>cases hi;exact .int _ _ h2.1 h2.2
  |2,hi=>cases hi;exact .int _ _ h3.1 h3.2
  |3,hi=>cases hi;exact .int _ _ h4.1 h4.2
  |4,hi=>cases hi;exact .int _ _ h5.1 h5.2
  |5,hi=>cases hi;exact .int _ _ h6.1 h6.2
  |6,hi=>cases hi;exact .bool _
 .match i,hi with
  |0,hi=>cases hi;rfl
  |1,hi=>cases hi;rfl
  |2,hi=>cases hi;rfl
  |3,hi=>cases hi;rfl
  |4,hi=>cases hi;rfl
  |5,hi=>cases hi;rfl
  |6,hi=>cases hi;rfl
def acW {cap:Nat->Option CSig}{V:Im}{cells:List Value}{xs:List D}(hl:cells.length=xs.length*7)(h:du cap V tE cells xs):cells=xs.flatMap bP/\∀x,x∈xs->vC x:=by
 obtain⟨vs,bK,R7⟩:=h;have hE:∀i (hi:i<xs.length),vC xs[i]/\vs i=.agg (bP xs[i]).toArray:=λi hi=>vC.of_rep (bK i _ (aY hi));constructor
 .apply vE;intro t;by_cases ht:t<xs.length*7
  .have hi:t/7<xs.length:=by omega
   have hm:t%7<7:=by omega
   have e1:=Fz oe xs (t/7) (t%7) _ (aY hi) hm;have e2:t/7*7+t%7=t:=by omega
   rw[e2] at e1;have hu:=aY (show t%7<(bP xs[t/7]).length from hm);have:=R7 (t/7) (t%7) _ hi (by rw[(hE _ hi).2];show(bP xs[t/7]).toArray[t%7]?=_;rw[xT];exact hu);have e3:t/7*tE.size+t%7=t:=by show t/7*7+t%7=t;exact e2
   rw[e3] at this;rw[this,e1,hu]
  .rw[j7 (by omega),j7 (by rw[FA oe];omega)]
 .intro x hx;obtain⟨i,hi,rfl⟩:=fw hx;exact(hE i hi).1
def acX {cap:Nat->Option CSig}{V:Im}{xs:List D}(h:∀x,x∈xs->vC x):du cap V tE (xs.flatMap bP) xs:=by
 refine⟨λi=>.agg (bP (xs.getD i .none)).toArray,λi x hx=>?_,λi j u hi hj=>?_⟩
 .have e:xs.getD i .none=x:=by rw[aH,hx];rfl
  show Rep cap V tE (.agg (bP (xs.getD i .none)).toArray) x;rw[e];exact(h x (j9 hx)).rep
 .have hx:=aY hi;have e:xs.getD i .none=xs[i]:=by rw[aH,hx];rfl
  have hj:(bP (xs.getD i .none)).toArray[j]?=some u:=hj;rw[e,xT] at hj;have bA:(bP xs[i])[j]?=some u:=hj;have hj7:j<7:=by have:=(eO.1 bA).1;simpa [bP] using this
  show(xs.flatMap bP)[i*7+j]?=some u;rw[Fz oe xs i j _ hx hj7];exact bA
def aoO (xs:List D):∀v∈xs.flatMap bP,v.oneCell'=true:=by
 intro v hv;obtain⟨x,_,hx⟩:=xV.1 hv;simp[bP] at hx;rcases hx with rfl|rfl|rfl|rfl|rfl|rfl|rfl<;>rfl
def Xz {C:Ctx}{g N m cap k n:Nat}{T:TypeId}{e:Ty}{rest:List Sh}{ds:List D}{V:Im}{own:Nat->Option Nat}{hv:Nat->Value}{w:World}{args:Array Value}{cx:Nat->Prop}{α:Type}[Inhabited α]{enc:α->Value}{F:Array α}{os:Array Obj}{cur:Array Value}{ys:List D}
 (hk:e.size=k) (ax:V.ok w) (bp:∀k,V.m k≠some cw) (bB:∀k j,own k=some j->N<=k/\k<w.heap.size/\(∀o,V.c k o=none)/\V.m k=none)
 (dO:∀k,cx k->k<w.heap.size/\own k=none/\(∀o,V.c k o=none)/\V.m k=none)
 (e1:hv 0=.slice (some ⟨g,0,none⟩) m cap) (e2:N<=g) (e3:w.heap[g]?=some (.cells cur T (0,0))) (e4:m<=cap) (e5:cap<=maxLen) (e6:cur.size=cap*k) (oD:own g=some 0) (oM:ys.length=m) (hF:F.size=m*k)
 (de:du C.cap V e (F.toList.map enc) ys) (ha0:args.getD 0 undef=hv 0) (tw:rest.all pY=true):
 ∃v V' own' hv' dr nr,Ending.returned (.tuple #[])=Ending.returned v/\D.tup [.tup [],.list ys]=.tup (dr::nr)/\nr.length=1/\V.le V'/\V'.ok (Go.Sort.grow (Go.Sort.putRow enc (Go.Sort.ahead w n) g 0 F) os)/\Below 0 w (Go.Sort.grow (Go.Sort.putRow enc (Go.Sort.ahead w n) g 0 F) os)/\
  (∀k,k<w.heap.size->own k=none->(Go.Sort.grow (Go.Sort.putRow enc (Go.Sort.ahead w n) g 0 F) os).heap[k]?=w.heap[k]?)/\
  (∀k o x,V'.c k o=some x->(V.c k o=some x\/N<=k)/\¬cx k)/\(∀k x,V'.m k=some x->(V.m k=some x\/N<=k)/\¬cx k)/\(∀k,V'.m k=some cw->N<=k->k<w.heap.size->own k≠none)/\
  (∀k j,own' k=some j->N<=k/\k<(Go.Sort.grow (Go.Sort.putRow enc (Go.Sort.ahead w n) g 0 F) os).heap.size/\(∀o,V'.c k o=none)/\V'.m k=none/\(k<w.heap.size->own k≠none))/\
  (∀(t:Nat) (sh:Sh),(Sh.obj 0 0::rest)[t]?=some sh->pY sh=false->aG C (fh (.obj 0 0::rest) [(0,.row T e)]) (lV [(0,.row T e)] ds nr) V' hv' sh (args.getD t undef) (ds.getD t .none))/\
  (∀j,cf C (fh (.obj 0 0::rest) [(0,.row T e)]) (lV [(0,.row T e)] ds nr) V' own' hv' (Go.Sort.grow (Go.Sort.putRow enc (Go.Sort.ahead w n) g 0 F) os) N j (ei [(0,.row T e)] j))/\Rep C.cap V' (.tup []) v dr:=by
 obtain⟨_,_,hgc,rn⟩:=bB g 0 oD;have fF:=RL (enc:=enc) (w:=w) (g:=g) (n:=n) (os:=os) F;have CW:=aiA (enc:=enc) (w:=w) (base:=N) (n:=n) (os:=os) (m:=m) (k:=k) hF e2 e3 e4 e5 e6;generalize Go.Sort.grow (Go.Sort.putRow enc (Go.Sort.ahead w n) g 0 F) os=w' at*;have iK:∀k,k<w.heap.size->k≠g->w'.heap[k]?=w.heap[k]?:=λk hk ay=>fF.block k hk (λe=>ay (by cases e;rfl));have ad8:∀k o x,V.c k o=some x->k≠g:=λk o x hx e=>by subst e;rw[hgc o] at hx;cases hx
 have asI:∀k x,V.m k=some x->k≠g:=λk x hx e=>by subst e;rw[rn] at hx;cases hx
 refine⟨.tuple #[],V,λk=>if own k=some 0 then some 0 else none,hv,.tup [],[.list ys],rfl,rfl,rfl,.refl V,
  ⟨λk o x hx=>by rw[World.cell?_of_block (iK k (World.block_lt_of_cell? w (a:=⟨k,o,none⟩) (ax.c k o x hx)) (ad8 k o x hx))];exact ax.c k o x hx,λk x hx=>(ax.m k x hx).keep (iK k (ax.m k x hx).lt (asI k x hx)),ax.fz λk o x hx=>iK k (World.block_lt_of_cell? w (a:=⟨k,o,none⟩) (ax.c k o x hx)) (ad8 k o x hx)⟩,
  ⟨fF.os,fF.tape,fF.output,fF.size,λk hk=>by omega⟩,λk hk hn=>iK k hk (λe=>by subst e;rw[oD] at hn;cases hn),
  λk o x hx=>⟨.inl hx,λhc=>by rw[(dO k hc).2.2.1 o] at hx;cases hx⟩,λk x hx=>⟨.inl hx,λhc=>by rw[(dO k hc).2.2.2] at hx;cases hx⟩,λk hx=>absurd hx (bp k),λk j hk=>?_,λt sh hs hd=>?_,λj=>?_,
  .tup [] [] [] rfl rfl (λi t hi=>by simp at hi)⟩
 .by_cases ho:own k=some 0
  .obtain⟨g1,g2,g3,g4⟩:=bB k 0 ho;exact⟨g1,ly g2 fF.size,g3,g4,λ_ hn=>by rw[ho] at hn;cases hn⟩
  .simp[ho] at hk
 .match t,hs with
  |0,hs=>
   simp at hs;subst hs;exact⟨aZ _,λ_=>ha0⟩
  |t+1,hs=>
   have:=cM.1 tw sh (j9 (by simpa using hs));rw[hd] at this;cases this
 .show cf C _ _ V _ hv _ N j (bif Nat.beq 0 j then .row T e else .dead);cases hb:Nat.beq 0 j
  .trivial
  .have hj:=aD hb;subst hj;refine⟨F.toList.map enc,ys,rfl,?_,de,λk hk=>?_⟩
   .rw[e1,hk,oM];exact CW
   .rw[e1] at hk;simp[Value.ownBlock] at hk;subst hk;simp[oD]
def SO {w:World}{g:Nat}{cur:Array Value}{T:TypeId}{F:Array Value}(hb:w.heap[g]?=some (.cells cur T (0,0)))(ht:cur.toList.take F.size=F.toList):Go.Sort.Holds id w g 0 F:=by
 intro j hj;refine⟨?_,by simp[World.frozen?,hb]⟩;have h1:(cur.toList.take F.size)[j]?=F.toList[j]?:=by rw[ht]
 rw[Eo hj] at h1;simp only[World.cell?,hb,ke];simp only[Option.isSome_none,AT,if_false];rw[<-qx,h1];simp[hj]
def akg {key:D->Int}{xs:List D}{n:Nat}(h:xs.length=n+1):gO key xs=(pk key xs n).toList.map λi:Fin (n+1)=>xs.getD i .none:=by
 unfold gO;split
 .omega
 .rename_i m hm;obtain rfl:m=n:=by omega
  rfl
def Q4 {cap:Nat->Option CSig}{V:Im}{t:Ty}{v:Value}{f:Nat}{ds:List D}(h:Rep cap V t v (.clo f ds)):∃(vs:List Value) (cs:CSig),v=.func (.func f) #[] vs.toArray/\cap f=some cs/\vs.length=cs.caps.length/\ds.length=cs.caps.length/\∀(i:Nat) (t:Ty),cs.caps[i]?=some t->Rep cap V t (vs.getD i undef) (ds.getD i .none):=by
 cases h with
 |fn f cs vs ds h1 h2 h3 h4=>exact⟨vs,cs,rfl,h1,h2,h3,h4⟩
end Rm
namespace Go.Proofs
open Go.Shelf
def Tryz.lays189_ren:Go.Shelf.Ren:=⟨λ|189=>49|125=>89|257=>88|128=>138|129=>139|294=>129|295=>130|296=>131|297=>132|298=>133|299=>134|216=>135|300=>136|301=>137|328=>169|329=>170|330=>171|331=>172|332=>173|215=>109|343=>201|n=>n,λ|28=>62|3=>3|46=>163|0=>0|51=>210|53=>182|4=>4|183=>204|182=>203|131=>207|5=>5|9=>9|218=>235|222=>239|228=>265|229=>233|n=>n,λ|n=>n⟩
def Tryz.lays189:Go.Proofs.Lays.n189 Tryz.prog Tryz.lays189_ren:={
 mixed:=by kernel_rfl
 f125:=Tryz.func89.trans (congrArg some (by kernel_rfl))
 f128:=Tryz.func138.trans (congrArg some (by kernel_rfl))
 f129:=Tryz.func139.trans (congrArg some (by kernel_rfl))
 f189:=Tryz.func49.trans (congrArg some (by kernel_rfl))
 f215:=Tryz.func109.trans (congrArg some (by kernel_rfl))
 f216:=Tryz.func135.trans (congrArg some (by kernel_rfl))
 f257:=Tryz.func88.trans (congrArg some (by kernel_rfl))
 f294:=Tryz.func129.trans (congrArg some (by kernel_rfl))
 f295:=Tryz.func130.trans (congrArg some (by kernel_rfl))
 f296:=Tryz.func131.trans (congrArg some (by kernel_rfl))
 f297:=Tryz.func132.trans (congrArg some (by kernel_rfl))
 f298:=Tryz.func133.trans (congrArg some (by kernel_rfl))
 f299:=Tryz.func134.trans (congrArg some (by kernel_rfl))
 f300:=Tryz.func136.trans (congrArg some (by kernel_rfl))
 f301:=Tryz.func137.trans (congrArg some (by kernel_rfl))
 f328:=Tryz.func169.trans (congrArg some (by kernel_rfl))
 f329:=Tryz.func170.trans (congrArg some (by kernel_rfl))
 f330:=Tryz.func171.trans (congrArg some (by kernel_rfl))
 f331:=Tryz.func172.trans (congrArg some (by kernel_rfl))
 f332:=Tryz.func173.trans (congrArg some (by kernel_rfl))
 f343:=Tryz.func201.trans (congrArg some (by kernel_rfl))
 t0:=Tryz.underlying0
 a0:=Tryz.isAgg0
 z0:=Tryz.sizeOf0
 v0:=Tryz.zeroValue0
 t3:=Tryz.underlying3
 a3:=Tryz.isAgg3
 z3:=Tryz.sizeOf3
 v3:=Tryz.zeroValue3
 t4:=Tryz.underlying4
 a4:=Tryz.isAgg4
 z4:=Tryz.sizeOf4
 v4:=Tryz.zeroValue4
 t5:=Tryz.underlying5
 a5:=Tryz.isAgg5
 z5:=Tryz.sizeOf5
 v5:=Tryz.zeroValue5
 t9:=Tryz.underlying9
 a9:=Tryz.isAgg9
 z9:=Tryz.sizeOf9
 v9:=Tryz.zeroValue9
 t28:=Tryz.underlying62
 a28:=Tryz.isAgg62
 z28:=Tryz.sizeOf62
 v28:=Tryz.zeroValue62
 t46:=Tryz.underlying163
 a46:=Tryz.isAgg163
 z46:=Tryz.sizeOf163
 v46:=Tryz.zeroValue163
 t51:=Tryz.underlying210
 a51:=Tryz.isAgg210
 z51:=Tryz.sizeOf210
 v51:=Tryz.zeroValue210
 t53:=Tryz.underlying182
 a53:=Tryz.isAgg182
 z53:=Tryz.sizeOf182
 v53:=Tryz.zeroValue182
 t131:=Tryz.underlying207
 a131:=Tryz.isAgg207
 z131:=Tryz.sizeOf207
 v131:=Tryz.zeroValue207
 t182:=Tryz.underlying203
 a182:=Tryz.isAgg203
 z182:=Tryz.sizeOf203
 v182:=Tryz.zeroValue203
 t183:=Tryz.underlying204
 a183:=Tryz.isAgg204
 z183:=Tryz.sizeOf204
 v183:=Tryz.zeroValue204
 t218:=Tryz.underlying235
 a218:=Tryz.isAgg235
 z218:=Tryz.sizeOf235
 v218:=Tryz.zeroValue235
 t222:=Tryz.underlying239
 a222:=Tryz.isAgg239
 z222:=Tryz.sizeOf239
 v222:=Tryz.zeroValue239
 t228:=Tryz.underlying265
 a228:=Tryz.isAgg265
 z228:=Tryz.sizeOf265
 v228:=Tryz.zeroValue265
 t229:=Tryz.underlying233
 a229:=Tryz.isAgg233
 z229:=Tryz.sizeOf233
 v229:=Tryz.zeroValue233}
open Go.Sort Go.RowKit in
def Tryz.slices_Sort_int (iT off cap:Nat)(zs:List Int)(w:World)(hH:Holds (Value.int .i64) w iT off zs.toArray)(hblk:iT<w.heap.size)(aJ:zs.length<4611686018427387904):
 Calls Tryz.prog 49 #[.slice (some ⟨iT,off,none⟩) zs.length cap] w λe w'=>
  e=.returned (.tuple #[])/\∃n os,w'=grow (putRow (Value.int .i64) (Sort.ahead w n) iT off (zs.mergeSort λx y=>decide (x<=y)).toArray) os:=Any.slices_Sort_int Tryz.lays189 iT off cap zs w hH hblk aJ
def Tryz.laysNm215_ren:Go.Shelf.Ren:=⟨λ|15=>113|n=>n,λ|22=>62|3=>3|4=>4|n=>n,λ|n=>n⟩
def Tryz.laysNm215:Go.Proofs.Lays2.n15 Tryz.prog Tryz.laysNm215_ren:={
 mixed:=by kernel_rfl
 f15:=Tryz.func113.trans (congrArg some (by kernel_rfl))
 t3:=Tryz.underlying3
 a3:=Tryz.isAgg3
 z3:=Tryz.sizeOf3
 v3:=Tryz.zeroValue3
 t4:=Tryz.underlying4
 a4:=Tryz.isAgg4
 z4:=Tryz.sizeOf4
 v4:=Tryz.zeroValue4
 t22:=Tryz.underlying62
 a22:=Tryz.isAgg62
 z22:=Tryz.sizeOf62
 v22:=Tryz.zeroValue62
 i3:=by kernel_rfl}
open Go.RowKit Go.Lib in
def Tryz.slices_Clone_int_nil (n c:Nat)(w:World):
 Calls Tryz.prog 113 #[.slice none n c] w λe w'=>e=.returned (.slice none 0 0)/\w'=w:=Any.slices_Clone_int_nil Tryz.laysNm215 n c w
open Go.RowKit Go.Lib in
def Tryz.slices_Clone_int_zero (a:Addr)(c:Nat)(w:World):
 Calls Tryz.prog 113 #[.slice (some a) 0 c] w λe w'=>∃v',e=.returned v'/\w'.ownsRow w.heap.size 3 1 v' 0 []/\v'≠.slice none 0 0/\Below w.heap.size w w':=Any.slices_Clone_int_zero Tryz.laysNm215 a c w
open Go.RowKit Go.Lib in
def Tryz.slices_Clone_int (b off n c:Nat)(zs:List Int)(w:World)(hz:n<=zs.length)(ad2:n*8<=140737488355328)(hc:∀j,j<zs.length->w.cell? ⟨b,off+j,none⟩=some (.int .i64 (zs.getD j 0))):
 Calls Tryz.prog 113 #[.slice (some ⟨b,off,none⟩) n c] w λe w'=>∃v',e=.returned v'/\w'.ownsRow w.heap.size 3 1 v' n ((zs.take n).map (Value.int .i64))/\v'≠.slice none 0 0/\Below w.heap.size w w':=Any.slices_Clone_int Tryz.laysNm215 b off n c zs w hz ad2 hc
def Tryz.laysNm220_ren:Go.Shelf.Ren:=⟨λ|20=>83|n=>n,λ|22=>62|3=>3|4=>4|0=>0|n=>n,λ|n=>n⟩
def Tryz.laysNm220:Go.Proofs.Lays2.n20 Tryz.prog Tryz.laysNm220_ren:={
 mixed:=by kernel_rfl
 f20:=Tryz.func83.trans (congrArg some (by kernel_rfl))
 t0:=Tryz.underlying0
 a0:=Tryz.isAgg0
 z0:=Tryz.sizeOf0
 v0:=Tryz.zeroValue0
 t3:=Tryz.underlying3
 a3:=Tryz.isAgg3
 z3:=Tryz.sizeOf3
 v3:=Tryz.zeroValue3
 t4:=Tryz.underlying4
 a4:=Tryz.isAgg4
 z4:=Tryz.sizeOf4
 v4:=Tryz.zeroValue4
 t22:=Tryz.underlying62
 a22:=Tryz.isAgg62
 z22:=Tryz.sizeOf62
 v22:=Tryz.zeroValue62
 i3:=by kernel_rfl}
open Go.RowKit Go.Lib Go.Sort in
def Tryz.slices_Compact_int_empty (a:Option Addr)(cap:Nat)(w:World):
 Calls Tryz.prog 83 #[.slice a 0 cap] w λe w'=>e=.returned (.slice a 0 cap)/\w'=w:=Any.slices_Compact_int_empty Tryz.laysNm220 a cap w
open Go.RowKit Go.Sort in
def Tryz.slices_Sort_int_none (p:Option Addr)(cap:Nat)(w:World):
 Calls Tryz.prog 49 #[.slice p 0 cap] w λe w'=>e=.returned (.tuple #[])/\w'=w:=Any.slices_Sort_int_none Tryz.lays189 p cap w
open Go.RowKit Go.Lib Go.Sort in
def Tryz.slices_Compact_int (iT off cap:Nat)(zs:List Int)(w:World)(hH:Holds (Value.int .i64) w iT off zs.toArray)(aJ:zs.length<=9223372036854775807)(eQ:zs.length<=cap):
 Calls Tryz.prog 83 #[.slice (some ⟨iT,off,none⟩) zs.length cap] w λe w'=>e=.returned (.slice (some ⟨iT,off,none⟩) (Lib.compact zs).length cap)/\∃q,w'=putRow (Value.int .i64) (Sort.ahead w q) iT off (Lib.compact zs++List.replicate (zs.length-(Lib.compact zs).length) 0).toArray:=Any.slices_Compact_int Tryz.laysNm220 iT off cap zs w hH aJ eQ
def Tryz.laysSlF6_f61_ren:Go.Shelf.Ren:=⟨λ|6=>114|15=>89|14=>152|28=>138|29=>139|20=>127|21=>179|22=>180|23=>181|24=>182|25=>183|26=>184|27=>185|46=>204|47=>170|48=>171|49=>205|50=>206|57=>219|n=>n,λ|22=>62|24=>3|25=>106|3=>3|39=>163|0=>0|53=>210|55=>182|4=>4|46=>204|45=>203|50=>207|5=>5|9=>9|66=>235|70=>239|76=>265|77=>233|n=>n,λ|n=>n⟩
def Tryz.laysSlF6_f61:Go.Proofs.SlLaysF.n6 Tryz.prog Tryz.laysSlF6_f61_ren:={
 mixed:=by kernel_rfl
 f6:=⟨Tryz.f114.name,by decide,Tryz.func114.trans (congrArg some (by kernel_rfl))⟩
 f14:=⟨Tryz.f152.name,by decide,Tryz.func152.trans (congrArg some (by kernel_rfl))⟩
 f15:=Tryz.func89.trans (congrArg some (by kernel_rfl))
 f20:=⟨Tryz.f127.name,by decide,Tryz.func127.trans (congrArg some (by kernel_rfl))⟩
 f21:=⟨Tryz.f179.name,by decide,Tryz.func179.trans (congrArg some (by kernel_rfl))⟩
 f22:=⟨Tryz.f180.name,by decide,Tryz.func180.trans (congrArg some (by kernel_rfl))⟩
 f23:=⟨Tryz.f181.name,by decide,Tryz.func181.trans (congrArg some (by kernel_rfl))⟩
 f24:=⟨Tryz.f182.name,by decide,Tryz.func182.trans (congrArg some (by kernel_rfl))⟩
 f25:=⟨Tryz.f183.name,by decide,Tryz.func183.trans (congrArg some (by kernel_rfl))⟩
 f26:=⟨Tryz.f184.name,by decide,Tryz.func184.trans (congrArg some (by kernel_rfl))⟩
 f27:=⟨Tryz.f185.name,by decide,Tryz.func185.trans (congrArg some (by kernel_rfl))⟩
 f28:=Tryz.func138.trans (congrArg some (by kernel_rfl))
 f29:=Tryz.func139.trans (congrArg some (by kernel_rfl))
 f46:=⟨Tryz.f204.name,by decide,Tryz.func204.trans (congrArg some (by kernel_rfl))⟩
 f47:=Tryz.func170.trans (congrArg some (by kernel_rfl))
 f48:=Tryz.func171.trans (congrArg some (by kernel_rfl))
 f49:=⟨Tryz.f205.name,by decide,Tryz.func205.trans (congrArg some (by kernel_rfl))⟩
 f50:=⟨Tryz.f206.name,by decide,Tryz.func206.trans (congrArg some (by kernel_rfl))⟩
 f57:=⟨Tryz.f219.name,by decide,Tryz.func219.trans (congrArg some (by kernel_rfl))⟩
 t0:=Tryz.underlying0
 a0:=Tryz.isAgg0
 z0:=Tryz.sizeOf0
 v0:=Tryz.zeroValue0
 t3:=Tryz.underlying3
 a3:=Tryz.isAgg3
 z3:=Tryz.sizeOf3
 v3:=Tryz.zeroValue3
 t4:=Tryz.underlying4
 a4:=Tryz.isAgg4
 z4:=Tryz.sizeOf4
 v4:=Tryz.zeroValue4
 t5:=Tryz.underlying5
 a5:=Tryz.isAgg5
 z5:=Tryz.sizeOf5
 v5:=Tryz.zeroValue5
 t9:=Tryz.underlying9
 a9:=Tryz.isAgg9
 z9:=Tryz.sizeOf9
 v9:=Tryz.zeroValue9
 t22:=Tryz.underlying62
 a22:=Tryz.isAgg62
 z22:=Tryz.sizeOf62
 v22:=Tryz.zeroValue62
 a24:=Tryz.isAgg3
 z24:=Tryz.sizeOf3
 t25:=Tryz.underlying106
 a25:=Tryz.isAgg106
 z25:=Tryz.sizeOf106
 v25:=Tryz.zeroValue106
 t39:=Tryz.underlying163
 a39:=Tryz.isAgg163
 z39:=Tryz.sizeOf163
 v39:=Tryz.zeroValue163
 t45:=Tryz.underlying203
 a45:=Tryz.isAgg203
 z45:=Tryz.sizeOf203
 v45:=Tryz.zeroValue203
 t46:=Tryz.underlying204
 a46:=Tryz.isAgg204
 z46:=Tryz.sizeOf204
 v46:=Tryz.zeroValue204
 t50:=Tryz.underlying207
 a50:=Tryz.isAgg207
 z50:=Tryz.sizeOf207
 v50:=Tryz.zeroValue207
 t53:=Tryz.underlying210
 a53:=Tryz.isAgg210
 z53:=Tryz.sizeOf210
 v53:=Tryz.zeroValue210
 t55:=Tryz.underlying182
 a55:=Tryz.isAgg182
 z55:=Tryz.sizeOf182
 v55:=Tryz.zeroValue182
 t66:=Tryz.underlying235
 a66:=Tryz.isAgg235
 z66:=Tryz.sizeOf235
 v66:=Tryz.zeroValue235
 t70:=Tryz.underlying239
 a70:=Tryz.isAgg239
 z70:=Tryz.sizeOf239
 v70:=Tryz.zeroValue239
 t76:=Tryz.underlying265
 a76:=Tryz.isAgg265
 z76:=Tryz.sizeOf265
 v76:=Tryz.zeroValue265
 t77:=Tryz.underlying233
 a77:=Tryz.isAgg233
 z77:=Tryz.sizeOf233
 v77:=Tryz.zeroValue233}
def Tryz.sortE_ren:Go.Shelf.Ren:=⟨λ|6=>70|15=>89|14=>112|28=>138|29=>139|20=>144|21=>145|22=>146|23=>147|24=>148|25=>149|26=>150|27=>151|46=>176|47=>170|48=>171|49=>177|50=>178|57=>203|n=>n,λ|22=>102|24=>145|25=>146|3=>3|39=>163|0=>0|53=>210|55=>182|4=>4|46=>204|45=>203|50=>207|5=>5|9=>9|66=>235|70=>239|76=>265|77=>233|n=>n,λ|n=>n⟩
def Tryz.sortE:Go.Proofs.SlLaysF0.n6 Tryz.prog Tryz.sortE_ren:={
 mixed:=by kernel_rfl
 f6:=⟨Tryz.f70.name,by decide,Tryz.func70.trans (congrArg some (by kernel_rfl))⟩
 f14:=⟨Tryz.f112.name,by decide,Tryz.func112.trans (congrArg some (by kernel_rfl))⟩
 f15:=Tryz.func89.trans (congrArg some (by kernel_rfl))
 f20:=⟨Tryz.f144.name,by decide,Tryz.func144.trans (congrArg some (by kernel_rfl))⟩
 f21:=⟨Tryz.f145.name,by decide,Tryz.func145.trans (congrArg some (by kernel_rfl))⟩
 f22:=⟨Tryz.f146.name,by decide,Tryz.func146.trans (congrArg some (by kernel_rfl))⟩
 f23:=⟨Tryz.f147.name,by decide,Tryz.func147.trans (congrArg some (by kernel_rfl))⟩
 f24:=⟨Tryz.f148.name,by decide,Tryz.func148.trans (congrArg some (by kernel_rfl))⟩
 f25:=⟨Tryz.f149.name,by decide,Tryz.func149.trans (congrArg some (by kernel_rfl))⟩
 f26:=⟨Tryz.f150.name,by decide,Tryz.func150.trans (congrArg some (by kernel_rfl))⟩
 f27:=⟨Tryz.f151.name,by decide,Tryz.func151.trans (congrArg some (by kernel_rfl))⟩
 f28:=Tryz.func138.trans (congrArg some (by kernel_rfl))
 f29:=Tryz.func139.trans (congrArg some (by kernel_rfl))
 f46:=⟨Tryz.f176.name,by decide,Tryz.func176.trans (congrArg some (by kernel_rfl))⟩
 f47:=Tryz.func170.trans (congrArg some (by kernel_rfl))
 f48:=Tryz.func171.trans (congrArg some (by kernel_rfl))
 f49:=⟨Tryz.f177.name,by decide,Tryz.func177.trans (congrArg some (by kernel_rfl))⟩
 f50:=⟨Tryz.f178.name,by decide,Tryz.func178.trans (congrArg some (by kernel_rfl))⟩
 f57:=⟨Tryz.f203.name,by decide,Tryz.func203.trans (congrArg some (by kernel_rfl))⟩
 t0:=Tryz.underlying0
 a0:=Tryz.isAgg0
 z0:=Tryz.sizeOf0
 v0:=Tryz.zeroValue0
 t3:=Tryz.underlying3
 a3:=Tryz.isAgg3
 z3:=Tryz.sizeOf3
 v3:=Tryz.zeroValue3
 t4:=Tryz.underlying4
 a4:=Tryz.isAgg4
 z4:=Tryz.sizeOf4
 v4:=Tryz.zeroValue4
 t5:=Tryz.underlying5
 a5:=Tryz.isAgg5
 z5:=Tryz.sizeOf5
 v5:=Tryz.zeroValue5
 t9:=Tryz.underlying9
 a9:=Tryz.isAgg9
 z9:=Tryz.sizeOf9
 v9:=Tryz.zeroValue9
 t22:=Tryz.underlying102
 a22:=Tryz.isAgg102
 z22:=Tryz.sizeOf102
 v22:=Tryz.zeroValue102
 t25:=Tryz.underlying146
 a25:=Tryz.isAgg146
 z25:=Tryz.sizeOf146
 v25:=Tryz.zeroValue146
 t39:=Tryz.underlying163
 a39:=Tryz.isAgg163
 z39:=Tryz.sizeOf163
 v39:=Tryz.zeroValue163
 t45:=Tryz.underlying203
 a45:=Tryz.isAgg203
 z45:=Tryz.sizeOf203
 v45:=Tryz.zeroValue203
 t46:=Tryz.underlying204
 a46:=Tryz.isAgg204
 z46:=Tryz.sizeOf204
 v46:=Tryz.zeroValue204
 t50:=Tryz.underlying207
 a50:=Tryz.isAgg207
 z50:=Tryz.sizeOf207
 v50:=Tryz.zeroValue207
 t53:=Tryz.underlying210
 a53:=Tryz.isAgg210
 z53:=Tryz.sizeOf210
 v53:=Tryz.zeroValue210
 t55:=Tryz.underlying182
 a55:=Tryz.isAgg182
 z55:=Tryz.sizeOf182
 v55:=Tryz.zeroValue182
 t66:=Tryz.underlying235
 a66:=Tryz.isAgg235
 z66:=Tryz.sizeOf235
 v66:=Tryz.zeroValue235
 t70:=Tryz.underlying239
 a70:=Tryz.isAgg239
 z70:=Tryz.sizeOf239
 v70:=Tryz.zeroValue239
 t76:=Tryz.underlying265
 a76:=Tryz.isAgg265
 z76:=Tryz.sizeOf265
 v76:=Tryz.zeroValue265
 t77:=Tryz.underlying233
 a77:=Tryz.isAgg233
 z77:=Tryz.sizeOf233
 v77:=Tryz.zeroValue233}
def Tryz.ixE_ren:Go.Shelf.Ren:=⟨λ|6=>124|n=>n,λ|22=>102|23=>145|25=>159|3=>3|0=>0|4=>4|n=>n,λ|n=>n⟩
def Tryz.ixE:Go.Proofs.SlLaysH0.n6 Tryz.prog Tryz.ixE_ren:={
 mixed:=by kernel_rfl
 f6:=⟨Tryz.f124.name,by decide,Tryz.func124.trans (congrArg some (by kernel_rfl))⟩
 t0:=Tryz.underlying0
 a0:=Tryz.isAgg0
 z0:=Tryz.sizeOf0
 v0:=Tryz.zeroValue0
 t3:=Tryz.underlying3
 a3:=Tryz.isAgg3
 z3:=Tryz.sizeOf3
 v3:=Tryz.zeroValue3
 t4:=Tryz.underlying4
 a4:=Tryz.isAgg4
 z4:=Tryz.sizeOf4
 v4:=Tryz.zeroValue4
 t22:=Tryz.underlying102
 a22:=Tryz.isAgg102
 z22:=Tryz.sizeOf102
 v22:=Tryz.zeroValue102
 t25:=Tryz.underlying159
 a25:=Tryz.isAgg159
 z25:=Tryz.sizeOf159
 v25:=Tryz.zeroValue159}
end Go.Proofs
namespace Rm
open Go Go.Proofs Cx Go.RowKit Go.Sort
def gP (d:D):Int:=(d.c 5).i
def Di (d:D):Bool:=decide (0<=gP d)&&decide (gP d<=1099511627776)
def OT (ds:List D):Option D:=
 match ds with
 |[_,.clo f [],.list xs]=>if f=71/\xs.length<=4294967296/\xs.all Di=true then some (.tup [.tup [],.list (gO gP xs)]) else none
 |_=>none
set_option maxHeartbeats 1000000 in
def aEn (a0 a1 a2 a3 a4 a5 b0 b1 b2 b3 b4 b5:Int)(a6 b6:Bool)(hs:IntKind.i64.wrap (a5-b5)=a5-b5)(W:World):
 Calls Tryz.prog 71 #[.agg #[.int .i64 a0,.int .i64 a1,.int .i64 a2,.int .i64 a3,.int .i64 a4,.int .i64 a5,.bool a6],.agg #[.int .i64 b0,.int .i64 b1,.int .i64 b2,.int .i64 b3,.int .i64 b4,.int .i64 b5,.bool b6]] W λe w'=>e=.returned (.int .i64 (a5-b5))/\∃q nr,w'=grow (W.drewN q) nr:=by
 go_enter Tryz.func71,Tryz.ntmps71
 go_wp2
 go_ret
 exact⟨rfl,0,_,by rw[alloc_eq_grow,alloc_eq_grow,grow_grow];rfl⟩
def anl {xs:List D}{n:Nat}(aP:xs.all Di=true)(hn:xs.length=n+1)(iT off size:Nat)(w:World):
 CmpLays Tryz.prog 71 #[] (λi:Fin (n+1)=>bP (xs.getD i .none)) 7 (λi j=>gP (xs.getD i .none)-gP (xs.getD j .none)) iT off size w:=by
 intro m os dk hs x y
 have hr:∀i:Fin (n+1),0<=gP (xs.getD i .none)/\gP (xs.getD i .none)<=1099511627776:=λi=>by
  have hi:(i:Nat)<xs.length:=by rw[hn];exact i.2
  have:=cM.1 aP _ (bQ hi);rw[aH,aY hi];simpa [Di] using this
 have h1:=hr x;have h2:=hr y;exact aEn _ _ _ _ _ _ _ _ _ _ _ _ _ _ (aQ (by unfold gP at*;omega)) _
def aAC (ds:List D)(d:D)(h:OT ds=some d):eB ctx 70 [.obj 0 0,.dat (.fn [tE,tE] tI)] [(0,.row 145 tE)] (.tup []) ds d:=by
 refine eB.of (by simp) ?_;unfold OT at h;split at h
 case h_2=>cases h
 rename_i d0 f xs;split at h
 case isFalse=>cases h
 rename_i hc;obtain⟨rfl,hlen,aP⟩:=hc;cases h;intro N V own hv w args cx Gk ax hC bp hN aJ bB dO h1 h2;obtain⟨v,u,rfl⟩:∃v u,args=#[v,u]:=by
  match args,aJ with
  |⟨[v,u]⟩,_=>exact⟨v,u,rfl⟩
 have eT:v=hv 0:=(h1 0).2 rfl;have hu:Rep ctx.cap V (.fn [tE,tE] tI) u (.clo 71 []):=h1 1;obtain rfl:u=.func (.func 71) #[] #[]:=by
  obtain⟨vs,cs,rfl,_,k1,k2,_⟩:=Q4 hu;have:vs=[]:=vH.1 (by rw[k1,<-k2];rfl);rw[this]
 obtain⟨cells,fu,hx,cW,de,iZ⟩:=h2 0;have hx:D.list xs=D.list fu:=hx;cases hx;obtain⟨bh,hE⟩:=acW cW.1 de;by_cases h0:xs=[]
 .subst h0;obtain⟨p,cap,e1⟩:∃p cap,hv 0=.slice p 0 cap:=by
   rcases cW.2 with⟨e,_⟩|⟨g,cap,cur,e,_⟩
   .exact⟨_,_,e⟩
   .exact⟨_,_,e⟩
  rw[eT,e1];refine(AnyF.slices_SortFunc_none Tryz.sortE p cap _ w).mono λe w' hh=>?_;obtain⟨rfl,rfl⟩:=hh
  refine⟨.tuple #[],V,own,hv,.tup [],[.list []],rfl,rfl,rfl,.refl V,ax,.refl _ _,λk hk _=>rfl,
   λk o x hx=>⟨.inl hx,λhc=>by rw[(dO k hc).2.2.1 o] at hx;cases hx⟩,λk x hx=>⟨.inl hx,λhc=>by rw[(dO k hc).2.2.2] at hx;cases hx⟩,λk hx=>absurd hx (bp k),
   λk j hk=>by obtain⟨g1,g2,g3,g4⟩:=bB k j hk;exact⟨g1,g2,g3,g4,λ_ hn=>by rw[hk] at hn;cases hn⟩,λt sh hs hd=>?_,λj=>?_,.tup [] [] [] rfl rfl (λi t hi=>by simp at hi)⟩
  .match t,hs with
   |0,hs=>simp at hs;subst hs;exact⟨aZ _,λ_=>by simp[e1]⟩
   |1,hs=>simp at hs;subst hs;cases hd
   |t+2,hs=>simp at hs
  .exact h2 j
 obtain⟨n,hn⟩:∃n,xs.length=n+1:=⟨xs.length-1,by have:=Ep.2 h0;omega⟩
 rcases cW.2 with⟨_,h0⟩|⟨g,cap,cur,e1,e2,e3,e4,e5,e6,e7⟩
 .omega
 have hg:g<w.heap.size:=(eA.1 e3).1;have oD:own g=some 0:=iZ g (by rw[e1];rfl);have Sl:∀i:Fin (n+1),(bP (xs.getD i .none)).length=7:=λ_=>rfl
 have hH:HoldsK (λi:Fin (n+1)=>bP (xs.getD i .none)) 7 w g 0 (Array.ofFn id):=by
  refine SO e3 ?_;rw[Cu Sl,size_flatK,aaW,show(n+1)*7=xs.length*tE.size by rw[hn];rfl,e7,bh];have:=agN hn
  conv=>lhs;rw[<-this]
  rw[List.flatMap_map]
 have dc:=AnyQ.slices_SortFunc_eq Tryz.sortE 7 Tryz.isAgg145 Tryz.sizeOf145 (λi:Fin (n+1)=>bP (xs.getD i .none)) Sl
  (λi v hv=>aoO [xs.getD i .none] v (by simpa using hv)) (λi j=>gP (xs.getD i .none)-gP (xs.getD j .none)) (XS gP xs (n+1)) 71 #[] g 0 cap (Array.ofFn id) w
  (enters_of Tryz.func71 (by kernel_rfl) rfl) (anl aP hn _ _ _ w) hH hg (by simp;omega)
 change Calls Tryz.prog 70 _ _ _ at dc;simp only[aaW] at dc;have mR:hv 0=.slice (some ⟨g,0,none⟩) (n+1) cap:=by rw[e1,hn]
 rw[eT,mR];refine dc.mono λe w' hh=>?_;obtain⟨rfl,m,os,rfl⟩:=hh;have wD:=OV gP xs n;have oM:(gO gP xs).length=xs.length:=(se gP xs).length_eq;refine Xz (C:=ctx) (k:=7) (rest:=[.dat (.fn [tE,tE] tI)]) (enc:=id) (F:=flatK (λi:Fin (n+1)=>bP (xs.getD i .none)) 7 (pk gP xs n)) rfl ax bp bB dO mR e2 e3 (by rw[<-hn];exact e4) e5 e6 oD (by rw[oM,hn]) (by rw[size_flatK,wD]) ?_ (by simp[mR]) rfl;rw[xU,Cu Sl]
 have e:(pk gP xs n).toList.flatMap (λi:Fin (n+1)=>bP (xs.getD i .none))=(gO gP xs).flatMap bP:=by
  rw[akg hn,List.flatMap_map]
 rw[e];exact acX λx hx=>hE x ((se gP xs).mem_iff.1 hx)
end Rm
namespace Rm
open Go Cx
def zE (x:Int):List Int->List Int
 |[]=>[x]
 |y::l=>if x<=y then x::y::l else y::zE x l
def lR:List Int->List Int
 |[]=>[]
 |x::l=>zE x (lR l)
def TD (x:Int):∀l,(zE x l).Perm (x::l)
 |[]=>.refl _
 |y::l=>by
  unfold zE;split
  .exact .refl _
  .exact((TD x l).cons y).trans (.swap x y l)
def GJ:∀l,(lR l).Perm l
 |[]=>.refl _
 |x::l=>(TD x _).trans ((GJ l).cons x)
def afl (x:Int):∀{l:List Int},l.Pairwise (·<=·)->(zE x l).Pairwise (·<=·)
 |[],_=>by simp[zE]
 |y::l,h=>by
  have h':=xX.1 h;unfold zE;split
  .rename_i Tz;refine xX.2 ⟨λz hz=>?_,h⟩;rcases cv.1 hz with rfl|hz
   .exact Tz
   .exact Jd Tz (h'.1 z hz)
  .rename_i Tz;refine xX.2 ⟨λz hz=>?_,afl x h'.2⟩;rcases cv.1 ((TD x l).mem_iff.1 hz) with rfl|hz
   .omega
   .exact h'.1 z hz
def Mv:∀l,(lR l).Pairwise (·<=·)
 |[]=>.nil
 |x::l=>afl x (Mv l)
def aud (l:List Int):(l.mergeSort λx y=>decide (x<=y))=lR l:=by
 have h1:(l.mergeSort λx y=>decide (x<=y)).Pairwise (λx y=>decide (x<=y)=true):=List.pairwise_mergeSort (λa b c h1 h2=>by simp at*;omega) (λa b=>by simp;omega) l;refine List.Perm.eq_of_pairwise (le:=(·<=·)) (λa b _ _ h1 h2=>by omega) (h1.imp λh=>by simpa using h) (Mv l) ((List.mergeSort_perm l _).trans (GJ l).symm)
def Mu (l:List Int):(lR l).length=l.length:=(GJ l).length_eq
def aue {l:List Int}{x:Int}:x∈lR l↔x∈l:=(GJ l).mem_iff
def qT (l:List Int)(k:Nat):List Int:=((List.range k).filter λj=>decide (j=0\/l.getD j 0≠l.getD (j-1) 0)).map λj=>l.getD j 0
def kh (l:List Int):List Int:=qT l l.length
def anO (l:List Int)(k:Nat):qT l (k+1)=qT l k++if k=0\/l.getD k 0≠l.getD (k-1) 0 then[l.getD k 0] else[]:=by
 unfold qT;rw[PL,PB,py]
 congr 1
 have key:∀(p:Nat->Bool),List.filter p [k]=if p k then[k] else[]:=λp=>by
  cases h:p k<;>simp[List.filter,h]
 rw[key];by_cases h:k=0\/l.getD k 0≠l.getD (k-1) 0
 .rw[if_pos h,if_pos (decide_eq_true h)];rfl
 .rw[if_neg h,if_neg (by simpa using h)];rfl
def Rb (l:List Int)(hs:l.Pairwise (·<=·)):∀k,k<=l.length->(∀x,x∈qT l k↔∃j,j<k/\l.getD j 0=x)/\(qT l k).Pairwise (·<·)
 |0,_=>by simp[qT]
 |k+1,hk=>by
  obtain⟨h1,h2⟩:=Rb l hs k (by omega)
  have hle:∀i j,i<=j->j<l.length->l.getD i 0<=l.getD j 0:=λi j dC hj=>by
   have hi:i<l.length:=by omega
   rw[aH,aH,aY hi,aY hj];by_cases e:i=j
   .subst e;exact l7 _
   .exact PH.1 hs i j hi hj (by omega)
  rw[anO];by_cases hc:k=0\/l.getD k 0≠l.getD (k-1) 0
  .rw[if_pos hc];refine⟨λx=>?_,abj.2 ⟨h2,by simp,λa ha b hb=>?_⟩⟩
   .rw[dZ,h1,A5];constructor
    .rintro(⟨j,hj,e⟩|e)
     .exact⟨j,by omega,e⟩
     .exact⟨k,by omega,e.symm⟩
    .rintro⟨j,hj,e⟩;by_cases mY:j=k
     .subst mY;exact .inr e.symm
     .exact .inl ⟨j,by omega,e⟩
   .rw[A5] at hb;subst hb;obtain⟨j,hj,rfl⟩:=(h1 a).1 ha;have a1:=hle j (k-1) (by omega) (by omega);have a2:=hle (k-1) k (by omega) (by omega);rcases hc with hc|hc<;>omega
  .rw[if_neg hc,vD];refine⟨λx=>?_,h2⟩;rw[h1];constructor
   .rintro⟨j,hj,e⟩;exact⟨j,by omega,e⟩
   .rintro⟨j,hj,e⟩;by_cases mY:j=k
    .subst mY;exact⟨j-1,by omega,by rw[<-e];omega⟩
    .exact⟨j,by omega,e⟩
def anP {l:List Int}(hs:l.Pairwise (·<=·)){x:Int}:x∈kh l↔x∈l:=by
 rw[kh,(Rb l hs l.length (aZ _)).1,List.mem_iff_getElem];constructor
 .rintro⟨j,hj,e⟩;exact⟨j,hj,by rw[<-e,aH,aY hj];rfl⟩
 .rintro⟨j,hj,e⟩;exact⟨j,hj,by rw[<-e,aH,aY hj];rfl⟩
def anQ {l:List Int}(hs:l.Pairwise (·<=·)):(kh l).Pairwise (·<·):=(Rb l hs l.length (aZ _)).2
def acG (l:List Int)(k:Nat):(qT l k).length<=k:=by
 unfold qT;rw[dX];exact fb (kJ _ _) (by simp)
end Rm
namespace Rm
open Go Go.Proofs Cx Go.RowKit
def aki (ds:List D):Option D:=
 match ds with
 |[_,.list xs]=>if 0<xs.length/\xs.length<=4294967296 then some (.tup [.tup [],ints (lR (xs.map D.i))]) else none
 |_=>none
def D5 (ds:List D):Option D:=
 match ds with
 |[_,.list xs]=>if xs.length<=4294967296 then some (.tup [.tup [],ints (lR (xs.map D.i))]) else none
 |_=>none
def TE {cap:Nat->Option CSig}{V:Im}{cells:List Value}{xs:List D}(hl:cells.length=xs.length*1)(h:du cap V (.int .i64) cells xs):cells=(xs.map D.i).map (Value.int .i64)/\∀x,x∈xs.map D.i->(IntKind.i64).min<=x/\x<=(IntKind.i64).max:=by
 obtain⟨vs,bK,R7⟩:=h
 have wu:∀i (hi:i<xs.length),∃n,xs[i]=.int n/\vs i=.int .i64 n/\(IntKind.i64).min<=n/\n<=(IntKind.i64).max:=λi hi=>by
  obtain⟨n,e1,e2,e3,e4⟩:=(bK i _ (aY hi)).int_inv;exact⟨n,e2,e1,e3,e4⟩
 constructor
 .apply vE;intro i;by_cases hi:i<xs.length
  .obtain⟨n,e1,e2,_⟩:=wu i hi;have:=R7 i 0 (.int .i64 n) hi (by rw[e2];rfl);have e3:i*(Ty.int .i64).size+0=i:=by simp[Ty.size]
   rw[e3] at this;rw[this,cq,cq,aY hi,e1];rfl
  .rw[j7 (by omega),j7 (by simp;omega)]
 .intro x hx;obtain⟨y,hy,rfl⟩:=cd.1 hx;obtain⟨q,hq,rfl⟩:=fw hy;obtain⟨n,f1,f2,f3,f4⟩:=wu q hq;rw[f1];exact⟨f3,f4⟩
def Mw {cap:Nat->Option CSig}{V:Im}{l:List Int}(h:∀x,x∈l->(IntKind.i64).min<=x/\x<=(IntKind.i64).max):du cap V (.int .i64) (l.map (Value.int .i64)) (l.map D.int):=by
 refine⟨λi=>.int .i64 (l.getD i 0),λi x hx=>?_,λi j u hi hj=>?_⟩
 .rw[cq,aB] at hx;obtain⟨m,hm,rfl⟩:=hx;have e9:l.getD i 0=m:=by rw[aH,hm];rfl
  show Rep cap V (.int .i64) (.int .i64 (l.getD i 0)) _;rw[e9];have:=h m (j9 hm);exact .int .i64 m this.1 this.2
 .have hj0:j=0:=by
   have:=(eA.1 hj).1;simp[Value.cells] at this;omega
  subst hj0;simp[Value.cells] at hj;subst hj;have dB:i<l.length:=by simpa using hi
  simp[Ty.size,aY dB,aH]
def aAI (ds:List D)(d:D)(h:aki ds=some d):uj ctx 49 [.obj 0 0] [(0,.row 3 (.int .i64))] (.tup []) ds d:=by
 unfold aki at h;split at h
 case h_2=>cases h
 rename_i d0 xs;split at h
 case isFalse=>cases h
 rename_i hlen;cases h;intro N V own hv w args cx Gk ax hC bp hN aJ bB dO h1 h2;obtain⟨v,rfl⟩:∃v,args=#[v]:=by
  match args,aJ with
  |⟨[v]⟩,_=>exact⟨v,rfl⟩
 have eT:v=hv 0:=(h1 0).2 rfl;obtain⟨cells,fu,hx,cW,de,iZ⟩:=h2 0;have hx:D.list xs=D.list fu:=hx;cases hx;obtain⟨bh,bo⟩:=TE cW.1 de;rcases cW.2 with⟨_,h0⟩|⟨g,cap,cur,e1,e2,e3,e4,e5,e6,e7⟩
 .omega
 have cI:(Ty.int .i64).size=1:=rfl;rw[cI] at e6 e7;have hg:g<w.heap.size:=(eA.1 e3).1;have oD:own g=some 0:=iZ g (by rw[e1];rfl);have kW:(xs.map D.i).length=xs.length:=by simp
 have hH:Go.Sort.Holds (Value.int .i64) w g 0 (xs.map D.i).toArray:=holds_of_blockI e3 (by rw[kW,<-bh,<-e7];simp);have dc:=Tryz.slices_Sort_int g 0 cap (xs.map D.i) w hH hg (by omega);rw[eT,e1];rw[kW] at dc;refine dc.mono λe w' hh=>?_;obtain⟨rfl,n,os,rfl⟩:=hh;rw[aud];refine Xz (C:=ctx) (k:=1) (rest:=[]) (enc:=Value.int .i64) (F:=(lR (xs.map D.i)).toArray) rfl ax bp bB dO e1 e2 e3 e4 e5 e6 oD (by rw[dX,Mu,kW]) (by simp[Mu]) ?_ (by simp[e1]) rfl;exact Mw λx hx=>bo x ((GJ _).mem_iff.1 hx)
def aAH (ds:List D)(d:D)(h:D5 ds=some d):eB ctx 49 [.obj 0 0] [(0,.row 3 (.int .i64))] (.tup []) ds d:=by
 refine eB.of (by simp) ?_;by_cases h0:∃d0,ds=[d0,.list []]
 case neg=>
  refine aAI ds d ?_;unfold D5 at h;split at h
  case h_2=>cases h
  rename_i d0 xs;split at h
  case isFalse=>cases h
  rename_i hlen;have Gl:0<xs.length:=by
   cases xs with
   |nil=>exact absurd ⟨_,rfl⟩ h0
   |cons x xs=>simp
  show(if 0<xs.length/\xs.length<=4294967296 then some (D.tup [.tup [],ints (lR (xs.map D.i))]) else none)=some d;rw[if_pos ⟨Gl,hlen⟩];exact h
 obtain⟨d0,rfl⟩:=h0;obtain rfl:D.tup [.tup [],.list []]=d:=by simpa [D5,lR,ints] using h
 intro N V own hv w args cx Gk ax hC bp hN aJ bB dO h1 h2;obtain⟨v,rfl⟩:∃v,args=#[v]:=by
  match args,aJ with
  |⟨[v]⟩,_=>exact⟨v,rfl⟩
 have eT:v=hv 0:=(h1 0).2 rfl;obtain⟨cells,fu,hx,cW,de,iZ⟩:=h2 0;have hx:D.list []=D.list fu:=hx;cases hx;obtain⟨p,cap,e1⟩:∃p cap,hv 0=.slice p 0 cap:=by
  rcases cW.2 with⟨e,_⟩|⟨g,cap,cur,e,_⟩
  .exact⟨_,_,e⟩
  .exact⟨_,_,e⟩
 rw[eT,e1];refine(Tryz.slices_Sort_int_none p cap w).mono λe w' hh=>?_;obtain⟨rfl,rfl⟩:=hh
 refine⟨.tuple #[],V,own,hv,.tup [],[.list []],rfl,rfl,rfl,.refl V,ax,.refl _ _,λk hk _=>rfl,
  λk o x hx=>⟨.inl hx,λhc=>by rw[(dO k hc).2.2.1 o] at hx;cases hx⟩,λk x hx=>⟨.inl hx,λhc=>by rw[(dO k hc).2.2.2] at hx;cases hx⟩,λk hx=>absurd hx (bp k),
  λk j hk=>by obtain⟨g1,g2,g3,g4⟩:=bB k j hk;exact⟨g1,g2,g3,g4,λ_ hn=>by rw[hk] at hn;cases hn⟩,λt sh hs hd=>?_,λj=>?_,.tup [] [] [] rfl rfl (λi t hi=>by simp at hi)⟩
 .match t,hs with
  |0,hs=>simp at hs;subst hs;exact⟨aZ _,λ_=>by simp[e1]⟩
  |t+1,hs=>simp at hs
 .exact h2 j
def Ld (ds:List D):Option D:=
 match ds with
 |[.list xs]=>if xs.length<=4294967296 then some (ints (kh (xs.map D.i))) else none
 |_=>none
def anA (l:List Int):Go.Lib.compact l=kh l:=by
 have e:∀j,l.toArray[j]! =l.getD j 0:=λj=>by simp[aH,getElem!_def];cases l[j]?<;>rfl
 unfold Go.Lib.compact Go.Lib.compactUpTo kh qT Go.Lib.keeps;simp only[e]
def anR (l:List Int):∀x,x∈kh l->x∈l:=by
 intro x hx;unfold kh qT at hx;obtain⟨j,hj,rfl⟩:=cd.1 hx;have af:j<l.length:=fR.1 (dK.1 hj).1;rw[aH,aY af];exact bQ af
def anB (ds:List D)(d:D)(h:Ld ds=some d):eB ctx 83 [.obj 0 0] [(0,.row 3 (.int .i64)),(1,.tr)] (.slice (.int .i64)) ds d:=by
 unfold Ld at h;split at h
 case h_2=>cases h
 rename_i dW;split at h
 case isFalse=>cases h
 rename_i hlen;cases h;show xO ctx 83 3 (.int .i64) [] [.list dW] _;intro N V w v args xs cells ds' jO ax hC hN cW de hblk ha;cases jO;obtain rfl:args=[]:=vH.1 ha.1;have kP:cells.length=dW.length*1:=cW.1;obtain⟨bh,bo⟩:=TE kP de;have cI:(Ty.int .i64).size=1:=rfl;rcases cW.2 with⟨e1,h0⟩|⟨g,cap,cur,e1,e2,e3,e4,e5,e6,e7⟩
 .obtain rfl:dW=[]:=vH.1 h0;subst e1;refine(Tryz.slices_Compact_int_empty none 0 w).mono λx w' hh=>?_;obtain⟨rfl,rfl⟩:=hh;exact⟨_,[],[],rfl,rfl,.refl _ _,λ_ _ _=>rfl,World.ownsRow_nil _ _ _ _,⟨λ_=>undef,by simp,by simp⟩,λk hk=>by cases hk⟩
 rw[cI] at e6 e7;subst e1;have kW:(dW.map D.i).length=dW.length:=by simp
 have hg:g<w.heap.size:=(eA.1 e3).1;have hH:Go.Sort.Holds (Value.int .i64) w g 0 (dW.map D.i).toArray:=holds_of_blockI e3 (by rw[kW,<-bh,<-e7];simp);have dc:=Tryz.slices_Compact_int g 0 cap (dW.map D.i) w hH (by rw[kW];omega) (by rw[kW];exact e4);rw[kW,anA] at dc;refine dc.mono λx w' hh=>?_;obtain⟨rfl,n,rfl⟩:=hh;have FQ:(kh (dW.map D.i)).length<=dW.length:=fb (acG (dW.map D.i) (dW.map D.i).length) (by rw[kW];exact aZ _);generalize C0:kh (dW.map D.i)++List.replicate (dW.length-(kh (dW.map D.i)).length) 0=ts;have htl:ts.length=(dW.map D.i).length:=by rw[<-C0];simp;omega
 have fF:=grownBy_sortedI (w:=w) (g:=g) (n:=n) (os:=#[]) ts.toArray;have CW:=ownsRow_sortedI (w:=w) (base:=N) (n:=n) (os:=#[]) (ss:=dW.map D.i) (ts:=ts) htl e2 e3 (by rw[kW];exact e4) e5 (by omega);have hZ:∀W:World,Go.Sort.grow W #[]=W:=λW=>by simp[Go.Sort.grow]
 rw[hZ] at fF CW;refine⟨_,(kh (dW.map D.i)).map D.int,(kh (dW.map D.i)).map (Value.int .i64),rfl,rfl,⟨fF.os,fF.tape,fF.output,fF.size,λk hk=>fF.block k (by omega) (λe=>by cases e;omega)⟩,λk hk ay=>fF.block k hk (λe=>ay (by cases e;rfl)),?_,Mw λx hx=>bo x (anR _ x hx),λk hk=>?_⟩
 .rw[cI];refine⟨by simp,?_⟩;rcases CW.2 with⟨f1,_⟩|⟨g',amT,Q8,f1,f2,f3,f4,f5,f6,f7⟩
  .cases f1
  .cases f1;refine .inr ⟨g,cap,Q8,by simp,f2,f3,by simp;omega,f5,f6,?_⟩;have:=congrArg (List.take (kh (dW.map D.i)).length) f7;rw[PM,kW,Jn,mH FQ,<-C0,py,List.take_left' (by simp)] at this;rw[dX,Jn];exact this
 .have bn:g=k:=by simpa [Value.ownBlock] using hk
  subst bn;exact⟨.inl (by simp[Value.ownBlock]),ly hg fF.size⟩
def K9 (ds:List D):Option D:=
 match ds with
 |[.list xs]=>if xs.length<=4294967296 then some (.list xs) else none
 |_=>none
def ank (ds:List D)(d:D)(h:K9 ds=some d):∃s,ctx.sig 113=some s/\iP ctx 113 s ds d:=by
 refine⟨_,rfl,?_⟩;unfold K9 at h;split at h
 case h_2=>cases h
 rename_i xs;split at h
 case isFalse=>cases h
 rename_i hlen;cases h;intro V w args ax hC ha;obtain⟨a1,a2,a3⟩:=ha;have adY:=a3 0 _ rfl;obtain⟨v,rfl⟩:∃v,args=#[v]:=by
  have:args.size=1:=by simpa using a1
  match args,this with
  |⟨[v]⟩,_=>exact⟨v,rfl⟩
 simp only[qD] at adY;have fin:∀(v':Value) (w':World) (l:List Int),l.map D.int=xs->(∀x,x∈l->(IntKind.i64).min<=x/\x<=(IntKind.i64).max)->w'.ownsRow w.heap.size 3 1 v' l.length (l.map (Value.int .i64))->Below w.heap.size w w'->
  ∃v V',Ending.returned v'=Ending.returned v/\V.le V'/\V'.ok w'/\Below w.heap.size w w'/\(∀k o x,V'.c k o=some x->V.c k o=some x\/w.heap.size<=k)/\(∀k x,V'.m k=some x->V.m k=some x\/w.heap.size<=k)/\nL ctx ⟨[.slice (.int .i64)],.slice (.int .i64),.row 3 (.int .i64)⟩ V' w w' v (.list xs):=by
  intro v' w' l hl hb bB uM;subst hl;refine⟨v',V,rfl,.refl V,ax.below uM,uM,λ_ _ _ h=>.inl h,λ_ _ h=>.inl h,?_⟩;refine⟨_,l.map D.int,rfl,by rw[dX];exact bB,Mw hb,λk hk=>?_⟩;have bn:=(bB.lt k hk).1;refine⟨λo=>?_,?_⟩
  .cases hc:V.c k o with
   |none=>rfl
   |some u=>have:=World.block_lt_of_cell? w (a:=⟨k,o,none⟩) (ax.c _ _ _ hc);simp at this;omega
  .cases hc:V.m k with
   |none=>rfl
   |some u=>have:=(ax.m k u hc).lt;omega
 obtain⟨fu,hx,sZ⟩:=Rep.slice_inv adY;cases hx;rcases sZ with⟨⟨p,hv⟩,rfl⟩|⟨k,o,c,hv,h1,h2,vs,h3,h4⟩
 .have hv:v=.slice p 0 0:=hv;subst hv;cases p with
  |none=>
   refine(Tryz.slices_Clone_int_nil 0 0 w).mono λe w' hh=>?_;obtain⟨rfl,rfl⟩:=hh;exact fin _ _ [] rfl (by simp) (World.ownsRow_nil _ _ _ _) (.refl _ _)
  |some a=>
   refine(Tryz.slices_Clone_int_zero a 0 w).mono λe w' hh=>?_;obtain⟨v',rfl,bB,_,hb⟩:=hh;exact fin v' w' [] rfl (by simp) bB hb
 .have hv:v=.slice (some ⟨k,o,none⟩) xs.length c:=hv;subst hv
  have wu:∀i (hi:i<xs.length),∃n,xs[i]=.int n/\vs i=.int .i64 n/\(IntKind.i64).min<=n/\n<=(IntKind.i64).max:=λi hi=>by
   obtain⟨n,e1,e2,e3,e4⟩:=(h3 i _ (aY hi)).int_inv;exact⟨n,e2,e1,e3,e4⟩
  have GD:(xs.map D.i).map D.int=xs:=by
   apply PA (by simp);intro i CM L1;obtain⟨n,e1,_⟩:=wu i L1;simp[e1]
  have kW:(xs.map D.i).length=xs.length:=by simp
  have bh:=Tryz.slices_Clone_int k o xs.length c (xs.map D.i) w (by simp) (by omega) (λj hj=>by
   have bA:j<xs.length:=by simpa using hj
   obtain⟨n,e1,e2,_⟩:=wu j bA;have:=ax.c _ _ _ (h4 j 0 (.int .i64 n) bA (by rw[e2];rfl));have e3:(xs.map D.i).getD j 0=n:=by simp[aH,bA,e1]
   rw[e3];simpa [Ty.size] using this)
  refine bh.mono λe w' hh=>?_;obtain⟨v',rfl,bB,_,hb⟩:=hh;refine fin v' w' (xs.map D.i) GD (λx hx=>?_) ?_ hb
  .obtain⟨y,hy,rfl⟩:=cd.1 hx;obtain⟨q,hq,rfl⟩:=fw hy;obtain⟨n,f1,f2,f3,f4⟩:=wu q hq;rw[f1];exact⟨f3,f4⟩
  .rw[kW];rw[xY (by simp)] at bB;exact bB
end Rm
namespace Rm
open Go Go.Proofs Cx Go.RowKit Go.Sort
def dM (r d:D):Int:=(((r.c 2).l.getD d.i.toNat .none).c 0).i
def zX (r d:D):Bool:=(decide (0<=d.i)&&decide (d.i<(r.c 2).l.length))&&(decide (0<=dM r d)&&decide (dM r d<=9))
def OU (ds:List D):Option D:=
 match ds with
 |[_,.clo f [.ref r],.list xs]=>if f=115/\xs.length<=4294967296/\xs.all (zX r)=true then some (.tup [.tup [],.list (gO (dM r) xs)]) else none
 |_=>none
set_option maxHeartbeats 1000000 in
def am2 (W:World)(b o k o' n c i j:Nat)(gi gj:Int)(hi:i<n)(hj:j<n)(hn:n<=9223372036854775807)(hs:IntKind.i64.wrap (gi-gj)=gi-gj)
 (h2:W.cell? ⟨b,o+2,none⟩=some (.slice (some ⟨k,o',none⟩) n c)) (hgi:W.cell? ⟨k,o'+i,none⟩=some (.int .i64 gi)) (zc:W.cell? ⟨k,o'+j,none⟩=some (.int .i64 gj)):
 Calls Tryz.prog 115 #[.int .i64 i,.int .i64 j,.pointer (some ⟨b,o,none⟩)] W λe w'=>e=.returned (.int .i64 (gi-gj))/\∃q nr,w'=grow (W.drewN q) nr:=by
 have dB:(i:Int)<(n:Int):=by omega
 have bA:(j:Int)<(n:Int):=by omega
 have mixed:Tryz.prog.follows .mixedOrders=true:=by kernel_rfl
 go_enter Tryz.func115,Tryz.ntmps115
 go_wp2
 go_region_o
 go_wp2
 go_ret
 exact⟨rfl,1,#[],by rw[grow_empty];rfl⟩
def amX {α:Type}[Inhabited α]{enc:α->Value}{w:World}{g m:Nat}{dk:Array α}{os:Array Obj}{a:Addr}(h1:a.block<w.heap.size)(h2:a.block≠g):(sortWorld enc w g 0 m dk os).cell? a=w.cell? a:=
 World.cell?_of_block ((RL (enc:=enc) (w:=w) (g:=g) (n:=m) (os:=os) dk).block _ h1 (λe=>h2 (by cases e;rfl)))
def azM {cap:Nat->Option CSig}{V:Im}{u:Value}{r:D}(h:Rep cap V (.ref Y8) u (.ref r)):∃(b o k o' n c:Nat),u=.pointer (some ⟨b,o,none⟩)/\((r.c 2).l≠[]->V.c b (o+2)=some (.slice (some ⟨k,o',none⟩) n c)/\n=(r.c 2).l.length/\n<=9223372036854775807/\
 ∀i (hi:i<(r.c 2).l.length),V.c k (o'+i)=some (.int .i64 (((r.c 2).l[i]).c 0).i)):=by
 cases h with
 |ref t b o v d hv hc=>
  obtain⟨vs,ds,rfl,rfl,h1,h2,h3,_⟩:=hv.agg_inv;have h8:vs.length=8:=h1;have hr:=h3 2 _ rfl;have mV:V.c b (o+2)=some (vs.getD 2 undef):=hc 2 _ (by
   show vs.toArray[2]?=_;rw[xT,aH,aY (by omega)];rfl)
  have jO:(D.agg ds).c 2=ds.getD 2 .none:=rfl;rw[jO];generalize ds.getD 2 .none=x at*;generalize vs.getD 2 undef=y at*;obtain⟨xs,rfl,sZ⟩:=hr.slice_inv;show ∃(b' o2 k o' n c:Nat),_/\(xs≠[]->_)
  rcases sZ with⟨_,rfl⟩|⟨k,o',c,rfl,k1,k2,AL,k3,k4⟩
  .exact⟨b,o,0,0,0,0,rfl,λe=>absurd rfl e⟩
  .refine⟨b,o,k,o',xs.length,c,rfl,λ_=>⟨mV,rfl,by unfold maxLen at k2;omega,λi hi=>?_⟩⟩;obtain⟨ws,es,e1,e2,f1,f2,f3,_⟩:=(k3 i _ (aY hi)).agg_inv
   match ws,es,f1,f2 with
   |[w0],[e0],_,_=>
    obtain⟨m,g1,g2,_⟩:=(f3 0 _ rfl).int_inv;simp only[qD] at g1 g2;subst g1 g2;have:=k4 i 0 (.int .i64 m) hi (by rw[e1];rfl);have dB:i<xs.length:=hi;have sK:xs[i]'dB=D.agg [D.v (Value.int IntKind.i64 m)]:=e2;show V.c k (o'+i)=some (.int .i64 ((xs[i]'dB).c 0).i);rw[sK];have e3:o'+i*Y1.size+0=o'+i:=by show o'+i*1+0=_;omega
    rw[e3] at this;exact this
def anm {xs:List D}{n:Nat}{r:D}(aP:xs.all (zX r)=true)(hn:xs.length=n+1){V:Im}{w:World}{g:Nat}(ax:V.ok w)(hg:∀o,V.c g o=none){u:Value}(hu:Rep ctx.cap V (.ref Y8) u (.ref r))(size:Nat):
 CmpLays1 Tryz.prog 115 #[u] (λi:Fin (n+1)=>Value.int .i64 (xs.getD i .none).i) (λi j=>dM r (xs.getD i .none)-dM r (xs.getD j .none)) g 0 size w:=by
 intro m os dk hs x y
 have hr:∀i:Fin (n+1),zX r (xs.getD i .none)=true:=λi=>by
  have hi:(i:Nat)<xs.length:=by rw[hn];exact i.2
  have:=cM.1 aP _ (bQ hi);rw[aH,aY hi];exact this
 have h1:=hr x;have h2:=hr y;simp only[zX,au,decide_eq_true_eq] at h1 h2;obtain⟨b,o,k,o',nn,c,rfl,hl⟩:=azM hu;have ay:(r.c 2).l≠[]:=λe=>by rw[e] at h1;simp at h1;omega
 obtain⟨l1,l2,l3,l4⟩:=hl ay;have hgn:∀kk oo v,V.c kk oo=some v->kk≠g:=λkk oo v e h=>by subst h;rw[hg oo] at e;cases e
 have look:∀kk oo v,V.c kk oo=some v->(sortWorld (λi:Fin (n+1)=>Value.int .i64 (xs.getD i .none).i) w g 0 m dk os).cell? ⟨kk,oo,none⟩=some v:=λkk oo v e=>by
  have hw:=ax.c _ _ _ e;rw[amX (World.block_lt_of_cell? w (a:=⟨kk,oo,none⟩) hw) (hgn _ _ _ e)];exact hw
 have mX:∀i:Fin (n+1),0<=(xs.getD i .none).i->(xs.getD i .none).i<((r.c 2).l.length:Int)->V.c k (o'+(xs.getD i .none).i.toNat)=some (.int .i64 (dM r (xs.getD i .none))):=λi a1 a2=>by
  have af:(xs.getD i .none).i.toNat<(r.c 2).l.length:=by omega
  rw[l4 _ af];unfold dM;rw[aH (l:=(r.c 2).l),aY af];rfl
 have e1:=mX x h1.1.1 h1.1.2;have e2:=mX y h2.1.1 h2.1.2;have c:=am2 (sortWorld (λi:Fin (n+1)=>Value.int .i64 (xs.getD i .none).i) w g 0 m dk os) b o k o' nn c (xs.getD x .none).i.toNat (xs.getD y .none).i.toNat (dM r (xs.getD x .none)) (dM r (xs.getD y .none)) (by omega) (by omega) l3 (aQ (by omega)) (look _ _ _ l1) (look _ _ _ e1) (look _ _ _ e2);rw[Int.toNat_of_nonneg h1.1.1,Int.toNat_of_nonneg h2.1.1] at c;exact c
def aAE (ds:List D)(d:D)(h:OU ds=some d):eB ctx 114 [.obj 0 0,.dat (.fn [tI,tI] tI)] [(0,.row 3 tI)] (.tup []) ds d:=by
 refine eB.of (by simp) ?_;unfold OU at h;split at h
 case h_2=>cases h
 rename_i d0 f r xs;split at h
 case isFalse=>cases h
 rename_i hc;obtain⟨rfl,hlen,aP⟩:=hc;cases h;intro N V own hv w args cx Gk ax hC bp hN aJ bB dO h1 h2;obtain⟨v,u,rfl⟩:∃v u,args=#[v,u]:=by
  match args,aJ with
  |⟨[v,u]⟩,_=>exact⟨v,u,rfl⟩
 have eT:v=hv 0:=(h1 0).2 rfl;have hu:Rep ctx.cap V (.fn [tI,tI] tI) u (.clo 115 [.ref r]):=h1 1;obtain⟨p,rfl,hp⟩:∃p,u=.func (.func 115) #[] #[p]/\Rep ctx.cap V (.ref Y8) p (.ref r):=by
  obtain⟨vs,cs,rfl,k0,k1,k2,k3⟩:=Q4 hu;have cI:cs=⟨[.ref Y8],[I,I],I⟩:=by
   have e:ctx.cap 115=some ⟨[.ref Y8],[I,I],I⟩:=rfl;rw[e] at k0;exact(uo k0).symm
  subst cI
  match vs,k1 with
  |[p],_=>exact⟨p,rfl,k3 0 _ rfl⟩
 obtain⟨cells,fu,hx,cW,de,iZ⟩:=h2 0;have hx:D.list xs=D.list fu:=hx;cases hx;obtain⟨bh,bo⟩:=TE cW.1 de
 have hint:∀x,x∈xs->x=.int x.i:=λx hx=>by
  obtain⟨i,hi,rfl⟩:=fw hx;obtain⟨vs,bK,_⟩:=de;obtain⟨n,e1,e2,_⟩:=(bK i _ (aY hi)).int_inv;rw[e2];rfl
 by_cases h0:xs=[]
 .subst h0;obtain⟨q,cap,e1⟩:∃p cap,hv 0=.slice p 0 cap:=by
   rcases cW.2 with⟨e,_⟩|⟨g,cap,cur,e,_⟩
   .exact⟨_,_,e⟩
   .exact⟨_,_,e⟩
  rw[eT,e1];refine(AnyF.slices_SortFunc_none {Tryz.laysSlF6_f61 with} q cap _ w).mono λe w' hh=>?_;obtain⟨rfl,rfl⟩:=hh
  refine⟨.tuple #[],V,own,hv,.tup [],[.list []],rfl,rfl,rfl,.refl V,ax,.refl _ _,λk hk _=>rfl,
   λk o x hx=>⟨.inl hx,λhc=>by rw[(dO k hc).2.2.1 o] at hx;cases hx⟩,λk x hx=>⟨.inl hx,λhc=>by rw[(dO k hc).2.2.2] at hx;cases hx⟩,λk hx=>absurd hx (bp k),
   λk j hk=>by obtain⟨g1,g2,g3,g4⟩:=bB k j hk;exact⟨g1,g2,g3,g4,λ_ hn=>by rw[hk] at hn;cases hn⟩,λt sh hs hd=>?_,λj=>?_,.tup [] [] [] rfl rfl (λi t hi=>by simp at hi)⟩
  .match t,hs with
   |0,hs=>simp at hs;subst hs;exact⟨aZ _,λ_=>by simp[e1]⟩
   |1,hs=>simp at hs;subst hs;cases hd
   |t+2,hs=>simp at hs
  .exact h2 j
 obtain⟨n,hn⟩:∃n,xs.length=n+1:=⟨xs.length-1,by have:=Ep.2 h0;omega⟩
 rcases cW.2 with⟨_,h0⟩|⟨g,cap,cur,e1,e2,e3,e4,e5,e6,e7⟩
 .omega
 have cI:(Ty.int .i64).size=1:=rfl;rw[cI] at e6 e7;have hg:g<w.heap.size:=(eA.1 e3).1;have oD:own g=some 0:=iZ g (by rw[e1];rfl)
 have hH:Go.Sort.Holds (λi:Fin (n+1)=>Value.int .i64 (xs.getD i .none).i) w g 0 (Array.ofFn id):=by
  have hF:Go.Sort.Holds id w g 0 (xs.map λx=>Value.int .i64 x.i).toArray:=SO e3 (by
   rw[Jn] at e7;have:(xs.map λx=>Value.int .i64 x.i).toArray.size=xs.length:=by simp
   rw[this,e7,bh,nJ];rfl)
  intro j hj;have bA:j<n+1:=by simpa using hj
  have Sk:j<xs.length:=by omega
  have:=hF j (by simpa using Sk);rw[getElem!_pos _ j (by simpa using Sk)] at this;rw[getElem!_pos _ j hj];simpa [Sk] using this
 have dc:=Any.slices_SortFunc_eq Tryz.laysSlF6_f61 (λi:Fin (n+1)=>Value.int .i64 (xs.getD i .none).i) (λ_=>rfl) (λi j=>dM r (xs.getD i .none)-dM r (xs.getD j .none)) (XS (dM r) xs (n+1)) 115 #[p] g 0 cap (Array.ofFn id) w
  (enters_of Tryz.func115 (by kernel_rfl) rfl) (anm aP hn ax (bB g 0 oD).2.2.1 hp _) hH hg (by simp;omega)
 change Calls Tryz.prog 114 _ _ _ at dc;simp only[aaW] at dc;have mR:hv 0=.slice (some ⟨g,0,none⟩) (n+1) cap:=by rw[e1,hn]
 rw[eT,mR];refine dc.mono λe w' hh=>?_;obtain⟨rfl,m,os,rfl⟩:=hh;have wD:=OV (dM r) xs n;have oM:(gO (dM r) xs).length=xs.length:=(se (dM r) xs).length_eq;refine Xz (C:=ctx) (k:=1) (rest:=[.dat (.fn [tI,tI] tI)]) (enc:=λi:Fin (n+1)=>Value.int .i64 (xs.getD i .none).i) (F:=pk (dM r) xs n) rfl ax bp bB dO mR e2 e3 (by rw[<-hn];exact e4) e5 e6 oD (by rw[oM,hn]) (by rw[wD,Jn]) ?_ (by simp[mR]) rfl
 have e8:(pk (dM r) xs n).toList.map (λi:Fin (n+1)=>Value.int .i64 (xs.getD i .none).i)=((gO (dM r) xs).map D.i).map (Value.int .i64):=by
  rw[akg hn,nJ,nJ];rfl
 have e9:((gO (dM r) xs).map D.i).map D.int=gO (dM r) xs:=by
  rw[nJ]
  conv=>rhs;rw[<-xU (gO (dM r) xs)]
  exact um λx hx=>(hint x ((se (dM r) xs).mem_iff.1 hx)).symm
 rw[e8]
 have:=Mw (cap:=ctx.cap) (V:=V) (l:=(gO (dM r) xs).map D.i) λx hx=>by
  obtain⟨y,hy,rfl⟩:=cd.1 hx;exact bo _ (A4 ((se (dM r) xs).mem_iff.1 hy))
 rw[e9] at this;exact this
def aAs {α:Type}[Inhabited α](enc:α->List Value)(k:Nat)(hk:∀x,(enc x).length=k)(d:Array α)(i:Nat)(hi:i<d.size)(y:α):setMany (flatK enc k d) (i*k) (enc y)=flatK enc k (d.setIfInBounds i y):=by
 refine ext_get! (by simp) λt ht=>?_;have wE:t<d.size*k:=by simpa using ht
 have k0:0<k:=by rcases Eu k with h|h;·subst h;simp at wE
                 .exact h
 rw[get_setMany _ _ _ t (by simpa using wE),get_flatK _ _ _ t wE,get_flatK _ _ _ t (by simpa using wE),hk];have m:∀q,t/k=q->t-q*k=t%k:=λq h=>by subst h;rw[Nat.mod_eq_sub_div_mul]
 by_cases a:t/k=i
 .rw[if_pos ((blk_iff k i t k0).2 a),m i a,a];have e:(d.setIfInBounds i y)[i]! =y:=getElem!_set_same d i y hi;rw[e]
 .rw[if_neg (λh=>a ((blk_iff k i t k0).1 h))];have e:(d.setIfInBounds i y)[t/k]! =d[t/k]!:=getElem!_set_other d i (t/k) y a;rw[e]
def alm {α:Type}[Inhabited α]{enc:α->List Value}{k:Nat}{w0 W:World}{iT off:Nat}{dk:Array α}(h:SWK enc k w0 iT off dk W)(hk:∀x,(enc x).length=k)(hblk:iT<w0.heap.size)(i:Nat)(hi:i<dk.size)(y:α):SWK enc k w0 iT off (dk.setIfInBounds i y) (W.setCells iT (off+i*k) (enc y)):=by
 obtain⟨m,os,rfl⟩:=h;refine⟨m,os,?_⟩;unfold sortWorldK;rw[setCells_grow os iT _ _ _ (by show iT<(putRowK enc k _ iT off dk).heap.size;rw[size_putRowK];exact hblk)];unfold putRowK;rw[setCells_putRow _ _ _ _ _ _ (by rw[hk,size_flatK];exact rowK_bnd dk k i hi),aAs enc k hk dk i hi y]
def aAe {P:Program}(w:World)(t e ty:TypeId)(z:Value)(ht:P.underlying t=some (.slice e))(hv:∀w,(zeroValue e).run P w=.ok z w)(b o n c:Nat)(hn:0<n)(w':World)
 (hs:Sem.run P (storeCells ⟨b,o,none⟩ (Builtin.zeroCells z.cells n).toList 0) w=.ok () w'):
 (Builtin.clear_ #[t] ty #[.slice (some ⟨b,o,none⟩) n c]).run P w=.ok (.tuple #[]) w':=by
 obtain⟨m,rfl⟩:∃m,n=m+1:=⟨n-1,by omega⟩
 simp[Builtin.clear_,run_underlying ht,hv,hs]
end Rm
namespace Rm
open Go Go.Proofs Cx Go.RowKit Go.Sort Go.Lib
def ij (d:D):Bool:=decide ((d.c 3).i=1)&&(decide ((d.c 1).i=1)||(d.c 6).b)
set_option maxHeartbeats 1000000 in
def afP (a0 a1 a2 a3 a4 a5:Int)(a6:Bool)(W:World):
 Calls Tryz.prog 86 #[.agg #[.int .i64 a0,.int .i64 a1,.int .i64 a2,.int .i64 a3,.int .i64 a4,.int .i64 a5,.bool a6]] W λe w'=>e=.returned (.bool (!(decide (a3=1)&&(decide (a1=1)||a6))))/\∃q nr,w'=grow (W.drewN q) nr:=by
 go_enter Tryz.func86,Tryz.ntmps86
 go_wp2
 all_goals
  go_ret
  refine⟨?_,0,_,by rw[alloc_eq_grow];rfl⟩;simp_all
def amC (W:World)(q:Nat)(os:Array Obj):Below W.heap.size W (grow (W.drewN q) os):=
 ⟨rfl,rfl,rfl,by show W.heap.size<=(W.heap++os).size;rw[Array.size_append];omega,λ_ hj=>heap_grow_old (W.drewN q) os hj⟩
def ayI (w:World):PredBelow Tryz.prog 86 #[] (λx:D=>.agg (bP x).toArray) (λx=> !ij x) w:=λW x hb=>by
 refine(afP (x.c 0).i (x.c 1).i (x.c 2).i (x.c 3).i (x.c 4).i (x.c 5).i (x.c 6).b W).mono λe w' hh=>?_;obtain⟨rfl,q,nr,rfl⟩:=hh;exact⟨rfl,hb.trans ((amC W q nr).mono hb.size)⟩
def apn {xs:List D}{j:Nat}(hj:j<xs.length){i:Nat}{v:Value}(hv:(bP xs[j]!)[i]?=some v):(flatK bP 7 xs.toArray)[j*7+i]?=some v:=by
 have hi:i<7:=by have:=(eO.1 hv).1;simpa [bP] using this
 rw[<-qx,Cu oe];have e:xs[j]! =xs[j]:=getElem!_pos xs j hj;rw[e] at hv;have:=Fz oe xs j i _ (aY hj) hi;simp only[List.toList_toArray] at*;rw[this,hv]
def aeK {w:World}{g off:Nat}{xs:List D}(hH:HoldsK bP 7 w g off xs.toArray){j:Nat}(hj:j<xs.length)(i:Nat)(v:Value)(hv:(bP xs[j]!)[i]?=some v):w.cell? ⟨g,off+j*7+i,none⟩=some v:=by
 have h:=apn hj hv;have af:=(eA.1 h).1;have:=(hH (j*7+i) af).1;rw[getElem!_pos (flatK bP 7 xs.toArray) _ af,(eA.1 h).2] at this;rw[sA];exact this
def aeL {w:World}{g off:Nat}{d:Array D}(hH:HoldsK bP 7 w g off d){j:Nat}(hj:j<d.size)(i:Nat)(v:Value)(hv:(bP d[j]!)[i]?=some v):w.cell? ⟨g,off+j*7+i,none⟩=some v/\w.frozen? ⟨g,off+j*7+i,none⟩=false:=by
 have hi:i<7:=by have:=(eO.1 hv).1;simpa [bP] using this
 have af:j*7+i<(flatK bP 7 d).size:=by rw[size_flatK];omega
 refine⟨?_,by have:=(hH (j*7+i) af).2;rw[sA];exact this⟩;have e:d.toList.toArray=d:=by simp
 have bA:j<d.toList.length:=by simpa using hj
 have e2:d.toList[j]! =d[j]!:=by rw[getElem!_pos d.toList j bA,getElem!_pos d j hj];simp
 exact aeK (xs:=d.toList) (by rw[e];exact hH) bA i v (by rw[e2];exact hv)
def EW (wr:World)(cs:Array Value)(T:TypeId)(q:Nat)(os:Array Obj)(k:Nat)(v:Value)(hv:cs[k]?=some v):(grow ((wr.alloc (.cells cs T)).drewN q) os).cell? ⟨wr.heap.size,k,none⟩=some v:=by
 rw[cell?_grow _ _ _ (by show wr.heap.size<(wr.heap.push _).size;rw[Array.size_push];omega)];show(wr.alloc _).cell? _=_;have e:(wr.alloc (.cells cs T)).heap[wr.heap.size]?=some (.cells cs T):=Array.getElem?_push_size;unfold World.cell?;simp only[e];exact hv
def apm {α:Type}{f:α->List Value}{k:Nat}(hk:∀x,(f x).length=k)(l:List α)(i:Nat)(hi:i<=l.length):(l.flatMap f).take (i*k)=(l.take i).flatMap f:=by
 have e:l.flatMap f=(l.take i).flatMap f++(l.drop i).flatMap f:=by rw[<-List.flatMap_append,Jj]
 rw[e];exact List.take_left' (by rw[FA hk,dY,mH hi])
def aAt (F:Array Value)(s:Nat)(vs:List Value)(hs:s<=F.size):(setMany F s vs).toList.take s=F.toList.take s:=by
 apply vE;intro t;by_cases ht:t<s
 .have h1:t<F.size:=by omega
  have h2:t<(setMany F s vs).size:=by rw[size_setMany];omega
  rw[Eo ht,Eo ht,qx,qx,jF h1,jF h2];have:=get_setMany vs s F t h1;rw[if_neg (by omega),getElem!_pos _ t h2,getElem!_pos F t h1] at this;rw[this]
 .rw[abd (by omega),abd (by omega)]
def aeJ {w w1:World}{g off:Nat}{d:Array D}(hH:HoldsK bP 7 w g off d)(hg:g<w.heap.size)(hb:Below w.heap.size w w1):HoldsK bP 7 w1 g off d:=λj hj=>by
 have e:=hb.block g hg;obtain⟨h1,h2⟩:=hH j hj;exact⟨by rw[World.cell?_of_block (w:=w) e];exact h1,by rw[World.frozen?_of_block (w:=w) e];exact h2⟩
set_option maxHeartbeats 1000000 in
set_option maxRecDepth 100000 in
def anU (g off cap:Nat)(xs:List D)(w:World)(hH:HoldsK bP 7 w g off xs.toArray)(hg:g<w.heap.size)(aJ:xs.length<=4294967296)(eQ:xs.length<=cap)(aJg:cap<=9223372036854775807):
 Calls Tryz.prog 84 #[.slice (some ⟨g,off,none⟩) xs.length cap,.func (.func 86) #[] #[]] w λe w'=>e=.returned (.slice (some ⟨g,off,none⟩) (xs.filter ij).length cap)/\
  ∃(w1:World) (m:Nat) (os:Array Obj) (F:Array Value),Below w.heap.size w w1/\F.size=xs.length*7/\F.toList.take ((xs.filter ij).length*7)=(xs.filter ij).flatMap bP/\w'=grow (putRow id (Sort.ahead w1 m) g off F) os:=by
 have eg:∀args w,(callFunc 86 args).run Tryz.prog w=.ok (.enter 86 args) w:=enters_of Tryz.func86 (by kernel_rfl) rfl;have uK:=AnyQ.slices_IndexFunc Tryz.ixE 7 Tryz.isAgg145 Tryz.sizeOf145 bP oe (λx=> !ij x) 86 #[] eg g off xs.length cap xs w (ayI w) (aZ _) (by omega) hg (λj hj i v hv=>aeK hH hj i v hv);change Calls Tryz.prog 124 _ _ _ at uK;rw[Jk] at uK;obtain⟨d,hd⟩:∃d,d=xs.toArray:=⟨_,rfl⟩
 have jO:d.size=xs.length:=by rw[hd];simp
 have LR:∀j,j<xs.length->xs[j]! =d[j]!:=λj hj=>by rw[hd,getElem!_pos xs j hj,getElem!_pos xs.toArray j (by simpa using hj)];simp
 obtain⟨kp,HK⟩:∃kp:Nat->Bool,Hid (kp=λj=>ij d[j]!):=⟨_,rfl⟩
 have FY:xs.filter ij=keptUpTo kp d d.size:=by rw[HK.out,keptUpTo_filter ij d,hd]
 rw[FY];rcases idxByFrom_spec (λ_ y=> !ij y) default xs 0 with⟨e1,aP⟩|⟨k0,ib,e1,ht,aP⟩
 .have e2:Lib.idxBy (λ_ y=> !ij y) xs default=-1:=e1;rw[e2] at uK
  have uQ:∀j,j<d.size->kp j=true:=λj hj=>by
   rw[HK.out];have:=aP j (by omega);rw[LR j (by omega)] at this;simpa using this
  have e3:keptUpTo kp d d.size=d.toList:=by rw[keptUpTo_all kp d _ uQ,range_map_get]
  have A:Aside (HoldsK bP 7 w g off xs.toArray):=hH;clear hH
  go_enter Tryz.func84,Tryz.ntmps84
  go_wp2_with (go_at_call 124;refine uK.mono ?_;rintro e w' ⟨rfl,hb⟩)
  go_ret
  rw[e3];refine⟨by simp[jO],w',0,#[],flatK bP 7 d,hb,by rw[size_flatK,jO],?_,?_⟩
  .rw[Cu oe,xY (by rw[FA oe];exact aZ _)]
  .rw[grow_empty];rw[<-hd] at A;exact(putRow_self id w' g off _ (aeJ A.out hg hb)).symm
 .have ass:k0<d.size:=by omega
  have e2:Lib.idxBy (λ_ y=> !ij y) xs default=(k0:Int):=by unfold Lib.idxBy;rw[e1];simp
  rw[e2] at uK
  have uQ:∀j,j<k0->kp j=true:=λj hj=>by
   rw[HK.out];have:=aP j hj;rw[LR j (by omega)] at this;simpa using this
  have arK:kp k0=false:=by
   rw[HK.out];have:=ht;rw[LR k0 (by omega)] at this;simpa using this
  have SA:((k0:Int)==-1)=false:=beq_eq_false_iff_ne.2 (by omega);have A:Aside (HoldsK bP 7 w g off xs.toArray):=hH;have AD:Aside (xs.toArray=d):=hd.symm;clear hH FY LR aP ht e1 e2;have HD:Hid (d.size=xs.length):=jO;rw[jO];clear hd jO ass;obtain⟨n,hn⟩:∃n,n=xs.length:=⟨_,rfl⟩
  have HN:Hid (d.size=n):=HD.out.trans hn.symm;rw[<-hn] at aJ eQ uK ib ⊢;clear hn HD
  go_enter Tryz.func84,Tryz.ntmps84
  go_wp2_with (go_at_call 124;refine uK.mono ?_;rintro e w1 ⟨rfl,hb⟩)
  have hH1:HoldsK bP 7 w1 g off d:=by rw[<-AD.out];exact aeJ A.out hg hb
  have kO:g<w1.heap.size:=ly hg hb.size;have HH:Hid (HoldsK bP 7 w1 g off d):=hH1;have HB:Hid (Below w.heap.size w w1):=hb;clear hH1 hb
  go_loopg [5,6,7] n (λgg s5 s6 _ wr=>∃(i j:Nat) (dk:Array D),s5=.int .i64 i/\s6=.int .i64 j/\j<=n/\n-j<=gg/\Hid (SWK bP 7 w1 g off dk wr)/\Aside (KeptInv kp d j i dk))
  case atStart=>exact⟨k0,k0+1,d,rfl,by go_num,by omega,by omega,SWK.start HH.out,KeptInv.start uQ arK⟩
  case round=>
   obtain⟨i,j,dk,rfl,rfl,hjd,hgg,HS,I2⟩:=hrel;have hI:=I2.out;have dC:=hI.lt;have LS:=hI.size;have bp:=HN.out;by_cases af:j<n
   .have asE:(j:Int)<(n:Int):=by omega
    have Sn:kp j=ij d[j]!:=by rw[HK.out]
    have EQ:Hid (d[j]! =d[j]!):=rfl;obtain⟨u,hu⟩:∃u,u=d[j]!:=⟨_,rfl⟩
    rw[<-hu] at Sn;have hc:=λi v hv=>(aeL (HS.out.holds kO HH.out LS) (show j<dk.size by omega) i v hv).1;rw[hI.high j (by omega),<-hu] at hc;have c0:wr.cell? ⟨g,off+j*7,none⟩=some (.int .i64 (u.c 0).i):=hc 0 _ rfl;have c1:wr.cell? ⟨g,off+j*7+1,none⟩=some (.int .i64 (u.c 1).i):=hc 1 _ rfl;have c2:wr.cell? ⟨g,off+j*7+2,none⟩=some (.int .i64 (u.c 2).i):=hc 2 _ rfl;have c3:wr.cell? ⟨g,off+j*7+3,none⟩=some (.int .i64 (u.c 3).i):=hc 3 _ rfl;have c4:wr.cell? ⟨g,off+j*7+4,none⟩=some (.int .i64 (u.c 4).i):=hc 4 _ rfl;have c5:wr.cell? ⟨g,off+j*7+5,none⟩=some (.int .i64 (u.c 5).i):=hc 5 _ rfl;have c6:wr.cell? ⟨g,off+j*7+6,none⟩=some (.bool (u.c 6).b):=hc 6 _ rfl;clear hc;have dc:∀W,Calls Tryz.prog 86 #[.agg #[.int .i64 (u.c 0).i,.int .i64 (u.c 1).i,.int .i64 (u.c 2).i,.int .i64 (u.c 3).i,.int .i64 (u.c 4).i,.int .i64 (u.c 5).i,.bool (u.c 6).b]] W λe w'=>e=.returned (.bool (!ij u))/\∃q nr,w'=grow (W.drewN q) nr:=λW=>afP _ _ _ _ _ _ _ W;have U:Hid (u=d[j]!/\kp j=ij u):=⟨hu,Sn⟩
    clear hu Sn hI;have EU:Hid (bP u=[.int .i64 (u.c 0).i,.int .i64 (u.c 1).i,.int .i64 (u.c 2).i,.int .i64 (u.c 3).i,.int .i64 (u.c 4).i,.int .i64 (u.c 5).i,.bool (u.c 6).b]):=rfl;generalize ij u=ku at dc U;generalize (u.c 0).i=a0 at c0 dc EU;generalize (u.c 1).i=a1 at c1 dc EU;generalize (u.c 2).i=a2 at c2 dc EU;generalize (u.c 3).i=a3 at c3 dc EU;generalize (u.c 4).i=a4 at c4 dc EU;generalize (u.c 5).i=a5 at c5 dc EU;generalize (u.c 6).b=a6 at c6 dc EU
    go_wp2_with fail
    refine(dc _).mono ?_;rintro e w' ⟨rfl,qq,No,rfl⟩;have Jb:SWK bP 7 w1 g off dk (grow ((wr.alloc (.cells #[.int .i64 a0,.int .i64 a1,.int .i64 a2,.int .i64 a3,.int .i64 a4,.int .i64 a5,.bool a6] 145)).drewN qq) No):=(HS.out.alloc _).grown qq No;have rh:=λk v hv=>EW wr #[.int .i64 a0,.int .i64 a1,.int .i64 a2,.int .i64 a3,.int .i64 a4,.int .i64 a5,.bool a6] 145 qq No k v hv;have cW:=λk v hv=>aeL (Jb.holds kO HH.out LS) (show i<dk.size by omega) k v hv;generalize grow ((wr.alloc (.cells #[.int .i64 a0,.int .i64 a1,.int .i64 a2,.int .i64 a3,.int .i64 a4,.int .i64 a5,.bool a6] 145)).drewN qq) No=W2 at Jb rh cW ⊢;obtain⟨x,hx⟩:∃x,x=dk[i]!:=⟨_,rfl⟩
    rw[<-hx] at cW;clear hx c0 c1 c2 c3 c4 c5 c6 HS dc;have b0:=rh 0 _ rfl;have b1:=rh 1 _ rfl;have b2:=rh 2 _ rfl;have b3:=rh 3 _ rfl;have b4:=rh 4 _ rfl;have b5:=rh 5 _ rfl;have b6:=rh 6 _ rfl;have r0:W2.cell? ⟨g,off+i*7,none⟩=some (.int .i64 (x.c 0).i)/\W2.frozen? ⟨g,off+i*7,none⟩=false:=cW 0 _ rfl;have r1:=cW 1 _ rfl;have r2:=cW 2 _ rfl;have r3:=cW 3 _ rfl;have r4:=cW 4 _ rfl;have r5:=cW 5 _ rfl;have r6:=cW 6 _ rfl;obtain⟨r0,s0⟩:=r0;obtain⟨r1,s1⟩:=r1;obtain⟨r2,s2⟩:=r2;obtain⟨r3,s3⟩:=r3;obtain⟨r4,s4⟩:=r4;obtain⟨r5,s5⟩:=r5;obtain⟨r6,s6⟩:=r6;clear cW rh;have SS:Hid (SWK bP 7 w1 g off dk W2):=Jb;clear Jb;cases ku with
    |false=>
     go_wp2
     go_roundg (n-(j+1))
     case measure=>omega
     case rel=>exact⟨i,j+1,dk,rfl,by go_num,by omega,aZ _,SS,I2.out.skip U.out.2⟩
    |true=>
     have hiz:(i:Int)<(n:Int):=by omega
     go_wp2
     go_roundg (n-(j+1))
     case measure=>omega
     case rel=>
      refine⟨i+1,j+1,dk.setIfInBounds i u,by go_num,by go_num,by omega,aZ _,?_,(show Aside _ from ?_)⟩
      .have:=alm SS.out oe kO i (by omega) u;rw[EU.out] at this;exact this
      .have:=I2.out.keep (by omega) U.out.2;rw[<-U.out.1] at this;exact this
   .obtain rfl:j=n:=by omega
    have asE:¬(j:Int)<(j:Int):=by omega
    obtain⟨m,os,gD⟩:=HS.out;have hHk:=HS.out.holds kO HH.out LS;have hiz:(i:Int)<=(j:Int):=by omega
    have hic:(i:Int)<=(cap:Int):=by omega
    obtain⟨zs,nm⟩:∃zs,zs=(Builtin.zeroCells (Value.agg #[.int .i64 0,.int .i64 0,.int .i64 0,.int .i64 0,.int .i64 0,.int .i64 0,.bool false]).cells (j-i)).toList:=⟨_,rfl⟩
    have kW:zs.length=(j-i)*7:=by rw[nm,AP,size_zeroCells];simp[Value.cells]
    have pW:∀v∈zs,v.oneCell'=true:=by
     intro v hv;rw[nm] at hv;unfold Builtin.zeroCells at hv;rw[AR,cd] at hv;obtain⟨a,_,rfl⟩:=hv;have h7:a%7<7:=qG _ (by decide);show((#[Value.int .i64 0,.int .i64 0,.int .i64 0,.int .i64 0,.int .i64 0,.int .i64 0,.bool false]:Array Value)[a%7]!).oneCell'=true;generalize a%7=b at h7;rcases b with _|_|_|_|_|_|_|b<;>first|rfl|omega
    have cX:Sem.run Tryz.prog (storeCells ⟨g,off+i*7,none⟩ zs 0) wr=.ok () (wr.setCells g (off+i*7) zs):=stores_of_holds Tryz.prog hHk (i*7) zs (by rw[kW,size_flatK];omega) pW;have aJi:∀ty,(Builtin.clear_ #[102] ty #[.slice (some ⟨g,off+i*7,none⟩) (j-i) (cap-i)]).run Tryz.prog wr=.ok (.tuple #[]) (wr.setCells g (off+i*7) zs):=λty=>
     aAe wr 102 145 ty _ Tryz.underlying102 Tryz.zeroValue145 g (off+i*7) (j-i) (cap-i) (by omega) _ (by rw[<-nm];exact cX)
    have R:Hid (wr=sortWorldK bP 7 w1 g off m dk os/\zs.length=(j-i)*7):=⟨gD,kW⟩
    clear gD hHk nm kW pW cX
    go_wp2
    go_ret
    have hI:=I2.out;have hlen:=hI.len;refine⟨by rw[hlen];rfl,w1,HB.out,m,os,setMany (flatK bP 7 dk) (i*7) zs,by rw[size_setMany,size_flatK,LS,bp],?_,?_⟩
    .rw[hlen,aAt _ _ _ (by rw[size_flatK];omega),Cu oe,apm oe _ _ (by simp;omega)]
     congr 1
     apply vE;intro t;by_cases ht:t<i
     .have h1:=hI.low t ht;rw[h1,Eo ht,qx,jF (by omega),getElem!_pos dk t (by omega)]
     .rw[j7 (by simp;omega),j7 (by omega)]
    .rw[R.out.1];unfold sortWorldK;rw[setCells_grow os g _ _ _ (by show g<(putRowK bP 7 _ g off dk).heap.size;rw[size_putRowK];exact kO)];unfold putRowK;rw[setCells_putRow _ _ _ _ _ _ (by rw[R.out.2,size_flatK];omega)]
set_option maxHeartbeats 1000000 in
def at7 (fv:Value)(w:World):Calls Tryz.prog 124 #[.slice none 0 0,fv] w λe w'=>e=.returned (.int .i64 (-1))/\w'=w:=by
 go_enter Tryz.func124,Tryz.ntmps124
 go_wp2
 refine wp_loop_rounds 1 ?_;rw[rounds_succ]
 go_wp2
 go_ret
 exact⟨rfl,rfl⟩
set_option maxHeartbeats 1000000 in
def anV (fv:Value)(w:World):Calls Tryz.prog 84 #[.slice none 0 0,fv] w λe w'=>e=.returned (.slice none 0 0)/\w'=w:=by
 have uK:=at7 fv w
 go_enter Tryz.func84,Tryz.ntmps84
 go_wp2_with (go_at_call 124;refine uK.mono ?_;rintro e w' ⟨rfl,rfl⟩)
 go_ret
 exact⟨rfl,rfl⟩
def Lg (ds:List D):Option D:=
 match ds with
 |[.list xs,.clo f []]=>if f=86/\xs.length<=4294967296 then some (.list (xs.filter ij)) else none
 |_=>none
def anS (ds:List D)(d:D)(h:Lg ds=some d):eB ctx 84 [.obj 0 0,.dat (.fn [tE] .bool)] [(0,.row 145 tE),(1,.tr)] (.slice tE) ds d:=by
 unfold Lg at h;split at h
 case h_2=>cases h
 rename_i dW f;split at h
 case isFalse=>cases h
 rename_i hc;obtain⟨rfl,hlen⟩:=hc;cases h;show xO ctx 84 145 tE [.fn [tE] .bool] [.list dW,.clo 86 []] _;intro N V w v args xs cells ds' jO ax hC hN cW de hblk ha;cases jO;obtain⟨a1,a2,a3⟩:=ha;obtain⟨u,rfl⟩:∃u,args=[u]:=by
  match args,a1 with
  |[u],_=>exact⟨u,rfl⟩
 have hu:Rep ctx.cap V (.fn [tE] .bool) u (.clo 86 []):=a3 0 _ rfl;obtain rfl:u=.func (.func 86) #[] #[]:=by
  obtain⟨vs,cs,rfl,_,k1,k2,_⟩:=Q4 hu;have:vs=[]:=vH.1 (by rw[k1,<-k2];rfl);rw[this]
 obtain⟨bh,hE⟩:=acW cW.1 de;rcases cW.2 with⟨e1,h0⟩|⟨g,cap,cur,e1,e2,e3,e4,e5,e6,e7⟩
 .obtain rfl:dW=[]:=vH.1 h0;subst e1;refine(anV _ w).mono λx w' hh=>?_;obtain⟨rfl,rfl⟩:=hh;exact⟨_,[],[],rfl,rfl,.refl _ _,λ_ _ _=>rfl,World.ownsRow_nil _ _ _ _,⟨λ_=>undef,by simp,by simp⟩,λk hk=>by cases hk⟩
 subst e1;have hg:g<w.heap.size:=(eA.1 e3).1;have hH:HoldsK bP 7 w g 0 dW.toArray:=by
  refine SO e3 ?_;rw[Cu oe,size_flatK,show dW.toArray.size*7=dW.length*tE.size by simp;rfl,e7,bh]
 have dc:=anU g 0 cap dW w hH hg hlen e4 (by unfold maxLen at e5;omega);refine dc.mono λx w' hh=>?_;obtain⟨rfl,w1,m,os,F,hb,hF,hT,rfl⟩:=hh;have Fb:w1.heap[g]?=some (.cells cur 145 (0,0)):=by rw[hb.block g hg];exact e3
 have fF:=RL (enc:=id) (w:=w1) (g:=g) (n:=m) (os:=os) F;have CW:=aiA (enc:=id) (w:=w1) (base:=N) (n:=m) (os:=os) (m:=dW.length) (k:=7) hF e2 Fb e4 e5 e6;generalize Go.Sort.grow (Go.Sort.putRow id (Go.Sort.ahead w1 m) g 0 F) os=W at*;have za:(dW.filter ij).length<=dW.length:=kJ _ _;refine⟨_,dW.filter ij,(dW.filter ij).flatMap bP,rfl,rfl,⟨fF.os.trans hb.os,fF.tape.trans hb.tape,fF.output.trans hb.output,fb hb.size fF.size,λk hk=>?_⟩,λk hk ay=>?_,?_,acX λx hx=>hE x (dK.1 hx).1,λk hk=>?_⟩
 .rw[fF.block k (ly hk (fb hN hb.size)) (λe=>by cases e;omega),hb.block k (ly hk hN)]
 .rw[fF.block k (ly hk hb.size) (λe=>ay (by cases e;rfl)),hb.block k hk]
 .refine⟨by rw[FA oe];rfl,?_⟩;rcases CW.2 with⟨f1,_⟩|⟨g',amT,Q8,f1,f2,f3,f4,f5,f6,f7⟩
  .cases f1
  .cases f1;refine .inr ⟨g,cap,Q8,rfl,f2,f3,by omega,f5,f6,?_⟩;have:=congrArg (List.take ((dW.filter ij).length*7)) f7;rw[PM,mH (kc _ za),xU,hT] at this;exact this
 .have bn:g=k:=by simpa [Value.ownBlock] using hk
  subst bn;exact⟨.inl (by simp[Value.ownBlock]),ly (ly hg hb.size) fF.size⟩
end Rm
