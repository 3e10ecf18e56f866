/-
  Shared texts of this claim.
-/
import Derived.Test.YtipjidjopglknaaGreatDoorMAJ
import Derived.Test.YtipjidjopglknaaGreatDoorMAO
import Derived.WalkKit
import Derived.WalkSpells
import Derived.Lib.SliceRun
import Derived.Lib.AppendZeros
import Derived.Laws.Strings
set_option linter.defProp false
set_option linter.unusedSimpArgs false
set_option linter.unusedVariables false
noncomputable section
open Go.IntKind (i64)
namespace Rm
open Go Cx
abbrev str (b:ByteArray):D:=.v (.string b)
def strs (l:List ByteArray):D:=.list (l.map str)
@[simp] def ay8 (l:List ByteArray):(strs l).l=l.map str:=zyz
def str_inv {d:D}(h:DTy .str d):∃b,d=str b:=by
 cases h with
 |str b=>exact⟨b,rfl⟩
 |other t d h=>exact h.elim
def ay7 {d:D}(h:DTy (.slice .str) d):∃l:List ByteArray,d=strs l/\l.length<=maxLen:=by
 obtain⟨xs,rfl,hm,hx⟩:=h.slice_inv;obtain⟨l,rfl,hl⟩:=lb (enc:=str) (P:=λ_=>True) λx hh=>(str_inv (hx x hh)).imp λb hb=>⟨hb,trivial⟩
 exact⟨l,rfl,by simpa using hm⟩
@[simp] def aEL (t:Tm):(cQ t).cells=[.int t.op,.int t.n,.list (t.args.map cQ)]:=by rw[Fm];rfl
@[simp] def aEM (t:Tm):D.agg [.int t.op,.int t.n,.list (t.args.map cQ)]=cQ t:=(Fm t).symm
@[simp] def aEI (t:Tm):(cQ t).c 0=.int t.op:=by rw[Fm];rfl
@[simp] def aEJ (t:Tm):(cQ t).c 1=.int t.n:=by rw[Fm];rfl
@[simp] def aEK (t:Tm):(cQ t).c 2=.list (t.args.map cQ):=by rw[Fm];rfl
structure City where
 name:ByteArray
 order:Int
 currency:Int
 rest:List Int
 feasts:List Int
 shut:List Int
 deriving Inhabited
def gy (x:City):D:=.agg [str x.name,.int x.order,.int x.currency,ints x.rest,ints x.feasts,ints x.shut]
@[simp] def aDF (x:City):(gy x).cells=[str x.name,.int x.order,.int x.currency,ints x.rest,ints x.feasts,ints x.shut]:=zyz
@[simp] def aHT (x:City):D.agg [str x.name,.int x.order,.int x.currency,ints x.rest,ints x.feasts,ints x.shut]=gy x:=zyz
@[simp] def aE6 (x:City):lH 6 (gy x)=gy x:=zyz
@[simp] def aDz (x:City):(gy x).c 0=str x.name:=zyz
@[simp] def aDA (x:City):(gy x).c 1=.int x.order:=zyz
@[simp] def aDB (x:City):(gy x).c 2=.int x.currency:=zyz
@[simp] def aDC (x:City):(gy x).c 3=ints x.rest:=zyz
@[simp] def aDD (x:City):(gy x).c 4=ints x.feasts:=zyz
@[simp] def aDE (x:City):(gy x).c 5=ints x.shut:=zyz
def yt (l:List City):D:=.list (l.map gy)
@[simp] def aFw (l:List City):(yt l).l=l.map gy:=zyz
abbrev Zv:Ty:=.agg [.str,.int .i64,.int .i64,.slice (.int .i64),.slice (.int .i64),.slice (.int .i64)]
def City.OK (x:City):Prop:=bl x.order/\bl x.currency/\(x.rest.length<=maxLen/\∀y,y∈x.rest->bl y)/\(x.feasts.length<=maxLen/\∀y,y∈x.feasts->bl y)/\(x.shut.length<=maxLen/\∀y,y∈x.shut->bl y)
def anb {d:D}(h:DTy Zv d):∃x:City,d=gy x/\x.OK:=by
 obtain⟨ds,rfl,hs⟩:=h.agg_inv;obtain⟨d0,ds,rfl,h0,hs⟩:=hs.cons_inv;obtain⟨d1,ds,rfl,h1,hs⟩:=hs.cons_inv;obtain⟨d2,ds,rfl,h2,hs⟩:=hs.cons_inv;obtain⟨d3,ds,rfl,h3,hs⟩:=hs.cons_inv;obtain⟨d4,ds,rfl,h4,hs⟩:=hs.cons_inv;obtain⟨d5,ds,rfl,h5,hs⟩:=hs.cons_inv;obtain rfl:=hs.nil_inv;obtain⟨n0,rfl⟩:=str_inv h0;obtain⟨n1,rfl,b1⟩:=h1.i64_inv;obtain⟨n2,rfl,b2⟩:=h2.i64_inv;obtain⟨n3,rfl,b3,c3⟩:=h3.ints_inv;obtain⟨n4,rfl,b4,c4⟩:=h4.ints_inv;obtain⟨n5,rfl,b5,c5⟩:=h5.ints_inv;exact⟨⟨n0,n1,n2,n3,n4,n5⟩,rfl,⟨b1,b2,⟨b3,c3⟩,⟨b4,c4⟩,⟨b5,c5⟩⟩⟩
def ane {d:D}(h:DTy (.slice Zv) d):∃l:List City,d=yt l/\l.length<=maxLen/\∀y,y∈l->City.OK y:=by
 obtain⟨xs,rfl,hm,hx⟩:=h.slice_inv;obtain⟨l,rfl,hl⟩:=lb (enc:=gy) (P:=City.OK) λx hh=>anb (hx x hh);exact⟨l,rfl,by simpa using hm,hl⟩
structure Firm where
 name:ByteArray
 city:Int
 group:Int
 deriving Inhabited
def ud (x:Firm):D:=.agg [str x.name,.int x.city,.int x.group]
@[simp] def aD0 (x:Firm):(ud x).cells=[str x.name,.int x.city,.int x.group]:=zyz
@[simp] def aHW (x:Firm):D.agg [str x.name,.int x.city,.int x.group]=ud x:=zyz
@[simp] def aDX (x:Firm):(ud x).c 0=str x.name:=zyz
@[simp] def aDY (x:Firm):(ud x).c 1=.int x.city:=zyz
@[simp] def aDZ (x:Firm):(ud x).c 2=.int x.group:=zyz
def firms (l:List Firm):D:=.list (l.map ud)
@[simp] def aGJ (l:List Firm):(firms l).l=l.map ud:=zyz
abbrev Zx:Ty:=.agg [.str,.int .i64,.int .i64]
def Firm.OK (x:Firm):Prop:=bl x.city/\bl x.group
def aoT {d:D}(h:DTy Zx d):∃x:Firm,d=ud x/\x.OK:=by
 obtain⟨ds,rfl,hs⟩:=h.agg_inv;obtain⟨d0,ds,rfl,h0,hs⟩:=hs.cons_inv;obtain⟨d1,ds,rfl,h1,hs⟩:=hs.cons_inv;obtain⟨d2,ds,rfl,h2,hs⟩:=hs.cons_inv;obtain rfl:=hs.nil_inv;obtain⟨n0,rfl⟩:=str_inv h0;obtain⟨n1,rfl,b1⟩:=h1.i64_inv;obtain⟨n2,rfl,b2⟩:=h2.i64_inv;exact⟨⟨n0,n1,n2⟩,rfl,⟨b1,b2⟩⟩
def aoU {d:D}(h:DTy (.slice Zx) d):∃l:List Firm,d=firms l/\l.length<=maxLen/\∀y,y∈l->Firm.OK y:=by
 obtain⟨xs,rfl,hm,hx⟩:=h.slice_inv;obtain⟨l,rfl,hl⟩:=lb (enc:=ud) (P:=Firm.OK) λx hh=>aoT (hx x hh);exact⟨l,rfl,by simpa using hm,hl⟩
structure Group where
 grade:Int
 deriving DecidableEq,Inhabited
def yy (x:Group):D:=.agg [.int x.grade]
@[simp] def aD2 (x:Group):(yy x).cells=[.int x.grade]:=zyz
@[simp] def aHX (x:Group):D.agg [.int x.grade]=yy x:=zyz
@[simp] def aD1 (x:Group):(yy x).c 0=.int x.grade:=zyz
def groups (l:List Group):D:=.list (l.map yy)
@[simp] def aGS (l:List Group):(groups l).l=l.map yy:=zyz
abbrev Zy:Ty:=.agg [.int .i64]
def Group.OK (x:Group):Prop:=bl x.grade
def aqj {d:D}(h:DTy Zy d):∃x:Group,d=yy x/\x.OK:=by
 obtain⟨ds,rfl,hs⟩:=h.agg_inv;obtain⟨d0,ds,rfl,h0,hs⟩:=hs.cons_inv;obtain rfl:=hs.nil_inv;obtain⟨n0,rfl,b0⟩:=h0.i64_inv;exact⟨⟨n0⟩,rfl,b0⟩
def aqk {d:D}(h:DTy (.slice Zy) d):∃l:List Group,d=groups l/\l.length<=maxLen/\∀y,y∈l->Group.OK y:=by
 obtain⟨xs,rfl,hm,hx⟩:=h.slice_inv;obtain⟨l,rfl,hl⟩:=lb (enc:=yy) (P:=Group.OK) λx hh=>aqj (hx x hh);exact⟨l,rfl,by simpa using hm,hl⟩
structure Usance where
 fr:Int
 to:Int
 days:Int
 deriving DecidableEq,Inhabited
def ug (x:Usance):D:=.agg [.int x.fr,.int x.to,.int x.days]
@[simp] def aEV (x:Usance):(ug x).cells=[.int x.fr,.int x.to,.int x.days]:=zyz
@[simp] def aH7 (x:Usance):D.agg [.int x.fr,.int x.to,.int x.days]=ug x:=zyz
@[simp] def aES (x:Usance):(ug x).c 0=.int x.fr:=zyz
@[simp] def aET (x:Usance):(ug x).c 1=.int x.to:=zyz
@[simp] def aEU (x:Usance):(ug x).c 2=.int x.days:=zyz
def usances (l:List Usance):D:=.list (l.map ug)
@[simp] def aI4 (l:List Usance):(usances l).l=l.map ug:=zyz
abbrev ZE:Ty:=.agg [.int .i64,.int .i64,.int .i64]
def Usance.OK (x:Usance):Prop:=bl x.fr/\bl x.to/\bl x.days
def aCv {d:D}(h:DTy ZE d):∃x:Usance,d=ug x/\x.OK:=by
 obtain⟨ds,rfl,hs⟩:=h.agg_inv;obtain⟨d0,ds,rfl,h0,hs⟩:=hs.cons_inv;obtain⟨d1,ds,rfl,h1,hs⟩:=hs.cons_inv;obtain⟨d2,ds,rfl,h2,hs⟩:=hs.cons_inv;obtain rfl:=hs.nil_inv;obtain⟨n0,rfl,b0⟩:=h0.i64_inv;obtain⟨n1,rfl,b1⟩:=h1.i64_inv;obtain⟨n2,rfl,b2⟩:=h2.i64_inv;exact⟨⟨n0,n1,n2⟩,rfl,⟨b0,b1,b2⟩⟩
def aCw {d:D}(h:DTy (.slice ZE) d):∃l:List Usance,d=usances l/\l.length<=maxLen/\∀y,y∈l->Usance.OK y:=by
 obtain⟨xs,rfl,hm,hx⟩:=h.slice_inv;obtain⟨l,rfl,hl⟩:=lb (enc:=ug) (P:=Usance.OK) λx hh=>aCv (hx x hh);exact⟨l,rfl,by simpa using hm,hl⟩
structure Rate where
 fr:Int
 to:Int
 num:Int
 den:Int
 since:Int
 deriving DecidableEq,Inhabited
def qN (x:Rate):D:=.agg [.int x.fr,.int x.to,.int x.num,.int x.den,.int x.since]
@[simp] def aEh (x:Rate):(qN x).cells=[.int x.fr,.int x.to,.int x.num,.int x.den,.int x.since]:=zyz
@[simp] def aH0 (x:Rate):D.agg [.int x.fr,.int x.to,.int x.num,.int x.den,.int x.since]=qN x:=zyz
@[simp] def aEc (x:Rate):(qN x).c 0=.int x.fr:=zyz
@[simp] def aEd (x:Rate):(qN x).c 1=.int x.to:=zyz
@[simp] def aEe (x:Rate):(qN x).c 2=.int x.num:=zyz
@[simp] def aEf (x:Rate):(qN x).c 3=.int x.den:=zyz
@[simp] def aEg (x:Rate):(qN x).c 4=.int x.since:=zyz
def rates (l:List Rate):D:=.list (l.map qN)
@[simp] def aIv (l:List Rate):(rates l).l=l.map qN:=zyz
abbrev ZB:Ty:=.agg [.int .i64,.int .i64,.int .i64,.int .i64,.int .i64]
def Rate.OK (x:Rate):Prop:=bl x.fr/\bl x.to/\bl x.num/\bl x.den/\bl x.since
def axV {d:D}(h:DTy ZB d):∃x:Rate,d=qN x/\x.OK:=by
 obtain⟨ds,rfl,hs⟩:=h.agg_inv;obtain⟨d0,ds,rfl,h0,hs⟩:=hs.cons_inv;obtain⟨d1,ds,rfl,h1,hs⟩:=hs.cons_inv;obtain⟨d2,ds,rfl,h2,hs⟩:=hs.cons_inv;obtain⟨d3,ds,rfl,h3,hs⟩:=hs.cons_inv;obtain⟨d4,ds,rfl,h4,hs⟩:=hs.cons_inv;obtain rfl:=hs.nil_inv;obtain⟨n0,rfl,b0⟩:=h0.i64_inv;obtain⟨n1,rfl,b1⟩:=h1.i64_inv;obtain⟨n2,rfl,b2⟩:=h2.i64_inv;obtain⟨n3,rfl,b3⟩:=h3.i64_inv;obtain⟨n4,rfl,b4⟩:=h4.i64_inv;exact⟨⟨n0,n1,n2,n3,n4⟩,rfl,⟨b0,b1,b2,b3,b4⟩⟩
def axW {d:D}(h:DTy (.slice ZB) d):∃l:List Rate,d=rates l/\l.length<=maxLen/\∀y,y∈l->Rate.OK y:=by
 obtain⟨xs,rfl,hm,hx⟩:=h.slice_inv;obtain⟨l,rfl,hl⟩:=lb (enc:=qN) (P:=Rate.OK) λx hh=>axV (hx x hh);exact⟨l,rfl,by simpa using hm,hl⟩
structure Halt where
 order:Int
 fr:Int
 to:Int
 deriving DecidableEq,Inhabited
def ue (x:Halt):D:=.agg [.int x.order,.int x.fr,.int x.to]
@[simp] def aD6 (x:Halt):(ue x).cells=[.int x.order,.int x.fr,.int x.to]:=zyz
@[simp] def aHY (x:Halt):D.agg [.int x.order,.int x.fr,.int x.to]=ue x:=zyz
@[simp] def aD3 (x:Halt):(ue x).c 0=.int x.order:=zyz
@[simp] def aD4 (x:Halt):(ue x).c 1=.int x.fr:=zyz
@[simp] def aD5 (x:Halt):(ue x).c 2=.int x.to:=zyz
def halts (l:List Halt):D:=.list (l.map ue)
@[simp] def aG3 (l:List Halt):(halts l).l=l.map ue:=zyz
abbrev Zz:Ty:=.agg [.int .i64,.int .i64,.int .i64]
def Halt.OK (x:Halt):Prop:=bl x.order/\bl x.fr/\bl x.to
def aqQ {d:D}(h:DTy Zz d):∃x:Halt,d=ue x/\x.OK:=by
 obtain⟨ds,rfl,hs⟩:=h.agg_inv;obtain⟨d0,ds,rfl,h0,hs⟩:=hs.cons_inv;obtain⟨d1,ds,rfl,h1,hs⟩:=hs.cons_inv;obtain⟨d2,ds,rfl,h2,hs⟩:=hs.cons_inv;obtain rfl:=hs.nil_inv;obtain⟨n0,rfl,b0⟩:=h0.i64_inv;obtain⟨n1,rfl,b1⟩:=h1.i64_inv;obtain⟨n2,rfl,b2⟩:=h2.i64_inv;exact⟨⟨n0,n1,n2⟩,rfl,⟨b0,b1,b2⟩⟩
def aqR {d:D}(h:DTy (.slice Zz) d):∃l:List Halt,d=halts l/\l.length<=maxLen/\∀y,y∈l->Halt.OK y:=by
 obtain⟨xs,rfl,hm,hx⟩:=h.slice_inv;obtain⟨l,rfl,hl⟩:=lb (enc:=ue) (P:=Halt.OK) λx hh=>aqQ (hx x hh);exact⟨l,rfl,by simpa using hm,hl⟩
structure Choice where
 ask:Int
 by_:Int
 whole:Bool
 deriving DecidableEq,Inhabited
def ub (x:Choice):D:=.agg [.int x.ask,.int x.by_,.bool x.whole]
@[simp] def aDy (x:Choice):(ub x).cells=[.int x.ask,.int x.by_,.bool x.whole]:=zyz
@[simp] def aHS (x:Choice):D.agg [.int x.ask,.int x.by_,.bool x.whole]=ub x:=zyz
@[simp] def aDw (x:Choice):(ub x).c 0=.int x.ask:=zyz
@[simp] def aDx (x:Choice):(ub x).c 1=.int x.by_:=zyz
def choices (l:List Choice):D:=.list (l.map ub)
@[simp] def aFv (l:List Choice):(choices l).l=l.map ub:=zyz
abbrev Zu:Ty:=.agg [.int .i64,.int .i64,.bool]
def Choice.OK (x:Choice):Prop:=bl x.ask/\bl x.by_
def am8 {d:D}(h:DTy Zu d):∃x:Choice,d=ub x/\x.OK:=by
 obtain⟨ds,rfl,hs⟩:=h.agg_inv;obtain⟨d0,ds,rfl,h0,hs⟩:=hs.cons_inv;obtain⟨d1,ds,rfl,h1,hs⟩:=hs.cons_inv;obtain⟨d2,ds,rfl,h2,hs⟩:=hs.cons_inv;obtain rfl:=hs.nil_inv;obtain⟨n0,rfl,b0⟩:=h0.i64_inv;obtain⟨n1,rfl,b1⟩:=h1.i64_inv;obtain⟨n2,rfl⟩:=h2.bool_inv;exact⟨⟨n0,n1,n2⟩,rfl,⟨b0,b1⟩⟩
def am9 {d:D}(h:DTy (.slice Zu) d):∃l:List Choice,d=choices l/\l.length<=maxLen/\∀y,y∈l->Choice.OK y:=by
 obtain⟨xs,rfl,hm,hx⟩:=h.slice_inv;obtain⟨l,rfl,hl⟩:=lb (enc:=ub) (P:=Choice.OK) λx hh=>am8 (hx x hh);exact⟨l,rfl,by simpa using hm,hl⟩
structure Rule where
 ask:Int
 term:Tm
 deriving Inhabited
def uf (x:Rule):D:=.agg [.int x.ask,.int x.term.op,.int x.term.n,.list (x.term.args.map cQ)]
@[simp] def aEs (x:Rule):(uf x).cells=[.int x.ask,.int x.term.op,.int x.term.n,.list (x.term.args.map cQ)]:=zyz
@[simp] def aH2 (x:Rule):D.agg [.int x.ask,.int x.term.op,.int x.term.n,.list (x.term.args.map cQ)]=uf x:=zyz
@[simp] def aEr (x:Rule):(uf x).c 0=.int x.ask:=zyz
def rules (l:List Rule):D:=.list (l.map uf)
@[simp] def aIz (l:List Rule):(rules l).l=l.map uf:=zyz
abbrev ZC:Ty:=.agg [.int .i64,.int .i64,.int .i64,.slice .trm]
def Rule.OK (x:Rule):Prop:=bl x.ask/\Tm.OK x.term
def ayA {d:D}(h:DTy ZC d):∃x:Rule,d=uf x/\x.OK:=by
 obtain⟨ds,rfl,hs⟩:=h.agg_inv;obtain⟨d0,ds,rfl,h0,hs⟩:=hs.cons_inv;obtain⟨d1,ds,rfl,h1,hs⟩:=hs.cons_inv;obtain⟨d2,ds,rfl,h2,hs⟩:=hs.cons_inv;obtain⟨d3,ds,rfl,h3,hs⟩:=hs.cons_inv;obtain rfl:=hs.nil_inv;obtain⟨n0,rfl,b0⟩:=h0.i64_inv;obtain⟨n1,rfl,b1⟩:=h1.i64_inv;obtain⟨n2,rfl,b2⟩:=h2.i64_inv;obtain⟨n3,rfl,b3,c3⟩:=h3.trms_inv;exact⟨⟨n0,.mk n1 n2 n3⟩,rfl,⟨b0,.mk _ _ _ b1 b2 b3 c3⟩⟩
def ayB {d:D}(h:DTy (.slice ZC) d):∃l:List Rule,d=rules l/\l.length<=maxLen/\∀y,y∈l->Rule.OK y:=by
 obtain⟨xs,rfl,hm,hx⟩:=h.slice_inv;obtain⟨l,rfl,hl⟩:=lb (enc:=uf) (P:=Rule.OK) λx hh=>ayA (hx x hh);exact⟨l,rfl,by simpa using hm,hl⟩
structure Order where
 name:ByteArray
 accepts:Bool
 choices:List Choice
 rules:List Rule
 deriving Inhabited
def gz (x:Order):D:=.agg [str x.name,.bool x.accepts,choices x.choices,rules x.rules]
@[simp] def aEb (x:Order):(gz x).cells=[str x.name,.bool x.accepts,choices x.choices,rules x.rules]:=zyz
@[simp] def aHZ (x:Order):D.agg [str x.name,.bool x.accepts,choices x.choices,rules x.rules]=gz x:=zyz
@[simp] def aE8 (x:Order):lH 4 (gz x)=gz x:=zyz
@[simp] def aD7 (x:Order):(gz x).c 0=str x.name:=zyz
@[simp] def aD8 (x:Order):(gz x).c 1=.bool x.accepts:=zyz
@[simp] def aD9 (x:Order):(gz x).c 2=choices x.choices:=zyz
@[simp] def aEa (x:Order):(gz x).c 3=rules x.rules:=zyz
def orders (l:List Order):D:=.list (l.map gz)
@[simp] def aIf (l:List Order):(orders l).l=l.map gz:=zyz
abbrev ZA:Ty:=.agg [.str,.bool,.slice Zu,.slice ZC]
def Order.OK (x:Order):Prop:=(x.choices.length<=maxLen/\∀y,y∈x.choices->Choice.OK y)/\(x.rules.length<=maxLen/\∀y,y∈x.rules->Rule.OK y)
def awM {d:D}(h:DTy ZA d):∃x:Order,d=gz x/\x.OK:=by
 obtain⟨ds,rfl,hs⟩:=h.agg_inv;obtain⟨d0,ds,rfl,h0,hs⟩:=hs.cons_inv;obtain⟨d1,ds,rfl,h1,hs⟩:=hs.cons_inv;obtain⟨d2,ds,rfl,h2,hs⟩:=hs.cons_inv;obtain⟨d3,ds,rfl,h3,hs⟩:=hs.cons_inv;obtain rfl:=hs.nil_inv;obtain⟨n0,rfl⟩:=str_inv h0;obtain⟨n1,rfl⟩:=h1.bool_inv;obtain⟨n2,rfl,b2,c2⟩:=am9 h2;obtain⟨n3,rfl,b3,c3⟩:=ayB h3;exact⟨⟨n0,n1,n2,n3⟩,rfl,⟨⟨b2,c2⟩,⟨b3,c3⟩⟩⟩
def awN {d:D}(h:DTy (.slice ZA) d):∃l:List Order,d=orders l/\l.length<=maxLen/\∀y,y∈l->Order.OK y:=by
 obtain⟨xs,rfl,hm,hx⟩:=h.slice_inv;obtain⟨l,rfl,hl⟩:=lb (enc:=gz) (P:=Order.OK) λx hh=>awM (hx x hh);exact⟨l,rfl,by simpa using hm,hl⟩
structure Realm where
 currencies:List ByteArray
 cities:List City
 groups:List Group
 firms:List Firm
 orders:List Order
 usances:List Usance
 rates:List Rate
 halts:List Halt
 deriving Inhabited
abbrev zzy (x:Realm):List D:=[strs x.currencies,yt x.cities,groups x.groups,firms x.firms,orders x.orders,usances x.usances,rates x.rates,halts x.halts]
def aU (x:Realm):D:=.agg (zzy x)
@[simp] def aEq (x:Realm):(aU x).cells=(zzy x):=zyz
@[simp] def aH1 (x:Realm):D.agg (zzy x)=aU x:=zyz
@[simp] def aE9 (x:Realm):lH 8 (aU x)=aU x:=zyz
@[simp] def aIj (x:Realm)(a0 a1 a2 a3 a4 a5 a6 a7:D):D.agg (eU [a0,a1,a2,a3,a4,a5,a6,a7] 0 (zzy x))=aU x:=zyz
@[simp] def aEi (x:Realm):(aU x).c 0=strs x.currencies:=zyz
@[simp] def aEj (x:Realm):(aU x).c 1=yt x.cities:=zyz
@[simp] def aEk (x:Realm):(aU x).c 2=groups x.groups:=zyz
@[simp] def aEl (x:Realm):(aU x).c 3=firms x.firms:=zyz
@[simp] def aEm (x:Realm):(aU x).c 4=orders x.orders:=zyz
@[simp] def aEn (x:Realm):(aU x).c 5=usances x.usances:=zyz
@[simp] def aEo (x:Realm):(aU x).c 6=rates x.rates:=zyz
@[simp] def aEp (x:Realm):(aU x).c 7=halts x.halts:=zyz
abbrev aCh:Ty:=.agg [.slice .str,.slice Zv,.slice Zy,.slice Zx,.slice ZA,.slice ZE,.slice ZB,.slice Zz]
def Realm.OK (x:Realm):Prop:=x.currencies.length<=maxLen/\(x.cities.length<=maxLen/\∀y,y∈x.cities->City.OK y)/\(x.groups.length<=maxLen/\∀y,y∈x.groups->Group.OK y)/\(x.firms.length<=maxLen/\∀y,y∈x.firms->Firm.OK y)/\(x.orders.length<=maxLen/\∀y,y∈x.orders->Order.OK y)/\(x.usances.length<=maxLen/\∀y,y∈x.usances->Usance.OK y)/\(x.rates.length<=maxLen/\∀y,y∈x.rates->Rate.OK y)/\(x.halts.length<=maxLen/\∀y,y∈x.halts->Halt.OK y)
def ayd {d:D}(h:DTy aCh d):∃x:Realm,d=aU x/\x.OK:=by
 obtain⟨ds,rfl,hs⟩:=h.agg_inv;obtain⟨d0,ds,rfl,h0,hs⟩:=hs.cons_inv;obtain⟨d1,ds,rfl,h1,hs⟩:=hs.cons_inv;obtain⟨d2,ds,rfl,h2,hs⟩:=hs.cons_inv;obtain⟨d3,ds,rfl,h3,hs⟩:=hs.cons_inv;obtain⟨d4,ds,rfl,h4,hs⟩:=hs.cons_inv;obtain⟨d5,ds,rfl,h5,hs⟩:=hs.cons_inv;obtain⟨d6,ds,rfl,h6,hs⟩:=hs.cons_inv;obtain⟨d7,ds,rfl,h7,hs⟩:=hs.cons_inv;obtain rfl:=hs.nil_inv;obtain⟨n0,rfl,b0⟩:=ay7 h0;obtain⟨n1,rfl,b1,c1⟩:=ane h1;obtain⟨n2,rfl,b2,c2⟩:=aqk h2;obtain⟨n3,rfl,b3,c3⟩:=aoU h3;obtain⟨n4,rfl,b4,c4⟩:=awN h4;obtain⟨n5,rfl,b5,c5⟩:=aCw h5;obtain⟨n6,rfl,b6,c6⟩:=axW h6;obtain⟨n7,rfl,b7,c7⟩:=aqR h7;exact⟨⟨n0,n1,n2,n3,n4,n5,n6,n7⟩,rfl,⟨b0,⟨b1,c1⟩,⟨b2,c2⟩,⟨b3,c3⟩,⟨b4,c4⟩,⟨b5,c5⟩,⟨b6,c6⟩,⟨b7,c7⟩⟩⟩
structure Tenor where
 kind:Int
 n:Int
 unit:Int
 deriving DecidableEq,Inhabited
def lK (x:Tenor):D:=.agg [.int x.kind,.int x.n,.int x.unit]
@[simp] def aEQ (x:Tenor):(lK x).cells=[.int x.kind,.int x.n,.int x.unit]:=zyz
@[simp] def aH6 (x:Tenor):D.agg [.int x.kind,.int x.n,.int x.unit]=lK x:=zyz
@[simp] def aEN (x:Tenor):(lK x).c 0=.int x.kind:=zyz
@[simp] def aEO (x:Tenor):(lK x).c 1=.int x.n:=zyz
@[simp] def aEP (x:Tenor):(lK x).c 2=.int x.unit:=zyz
def Tenor.OK (x:Tenor):Prop:=bl x.kind/\bl x.n/\bl x.unit
structure Bill where
 drawer:Int
 drawee:Int
 payee:Int
 sum:Int
 currency:Int
 tenor:Tenor
 day:Int
 city:Int
 pay:Int
 need:Int
 rate:Int
 flags:Int
 parts:Int
 deriving DecidableEq,Inhabited
abbrev zzz (x:Bill):List D:=[.int x.drawer,.int x.drawee,.int x.payee,.int x.sum,.int x.currency,.int x.tenor.kind,.int x.tenor.n,.int x.tenor.unit,.int x.day,.int x.city,.int x.pay,.int x.need,.int x.rate,.int x.flags,.int x.parts]
def eh (x:Bill):D:=.agg (zzz x)
@[simp] def aDj (x:Bill):(eh x).cells=(zzz x):=zyz
@[simp] def aHP (x:Bill):D.agg (zzz x)=eh x:=zyz
@[simp] def aE5 (x:Bill):lH 15 (eh x)=eh x:=zyz
@[simp] def aIg (x:Bill)(a0 a1 a2 a3 a4 a5 a6 a7 a8 a9 m0 oX a12 oY oZ:D):D.agg (eU [a0,a1,a2,a3,a4,a5,a6,a7,a8,a9,m0,oX,a12,oY,oZ] 0 (zzz x))=eh x:=zyz
@[simp] def aDc (x:Bill):(eh x).c 2=.int x.payee:=zyz
@[simp] def aDd (x:Bill):(eh x).c 3=.int x.sum:=zyz
@[simp] def aDe (x:Bill):(eh x).c 5=.int x.tenor.kind:=zyz
@[simp] def aDf (x:Bill):(eh x).c 6=.int x.tenor.n:=zyz
@[simp] def aDg (x:Bill):(eh x).c 7=.int x.tenor.unit:=zyz
@[simp] def aDh (x:Bill):(eh x).c 8=.int x.day:=zyz
@[simp] def aDi (x:Bill):(eh x).c 9=.int x.city:=zyz
@[simp] def aC8 (x:Bill):(eh x).c 10=.int x.pay:=zyz
@[simp] def aC9 (x:Bill):(eh x).c 12=.int x.rate:=zyz
@[simp] def aDa (x:Bill):(eh x).c 13=.int x.flags:=zyz
@[simp] def aDb (x:Bill):(eh x).c 14=.int x.parts:=zyz
def Bill.OK (x:Bill):Prop:=bl x.drawer/\bl x.drawee/\bl x.payee/\bl x.sum/\bl x.currency/\Tenor.OK x.tenor/\bl x.day/\bl x.city/\bl x.pay/\bl x.need/\bl x.rate/\bl x.flags/\bl x.parts
structure Sign where
 kind:Int
 part:Int
 who:Int
 for_:Int
 to:Int
 sum:Int
 day:Int
 city:Int
 flags:Int
 deriving DecidableEq,Inhabited
abbrev zzx (x:Sign):List D:=[.int x.kind,.int x.part,.int x.who,.int x.for_,.int x.to,.int x.sum,.int x.day,.int x.city,.int x.flags]
def nT (x:Sign):D:=.agg (zzx x)
@[simp] def aEH (x:Sign):(nT x).cells=(zzx x):=zyz
@[simp] def aH5 (x:Sign):D.agg (zzx x)=nT x:=zyz
@[simp] def aFb (x:Sign):lH 9 (nT x)=nT x:=zyz
@[simp] def aEC (x:Sign):(nT x).c 0=.int x.kind:=zyz
@[simp] def aED (x:Sign):(nT x).c 2=.int x.who:=zyz
@[simp] def aEE (x:Sign):(nT x).c 6=.int x.day:=zyz
@[simp] def aEF (x:Sign):(nT x).c 7=.int x.city:=zyz
@[simp] def aEG (x:Sign):(nT x).c 8=.int x.flags:=zyz
def signs (l:List Sign):D:=.list (l.map nT)
@[simp] def aIK (l:List Sign):(signs l).l=l.map nT:=zyz
@[simp] def aIJ (l:List Sign):(signs l).cells=[signs l]:=zyz
abbrev ZD:Ty:=.agg [.int .i64,.int .i64,.int .i64,.int .i64,.int .i64,.int .i64,.int .i64,.int .i64,.int .i64]
def Sign.OK (x:Sign):Prop:=bl x.kind/\bl x.part/\bl x.who/\bl x.for_/\bl x.to/\bl x.sum/\bl x.day/\bl x.city/\bl x.flags
def ayY {d:D}(h:DTy ZD d):∃x:Sign,d=nT x/\x.OK:=by
 obtain⟨ds,rfl,hs⟩:=h.agg_inv;obtain⟨d0,ds,rfl,h0,hs⟩:=hs.cons_inv;obtain⟨d1,ds,rfl,h1,hs⟩:=hs.cons_inv;obtain⟨d2,ds,rfl,h2,hs⟩:=hs.cons_inv;obtain⟨d3,ds,rfl,h3,hs⟩:=hs.cons_inv;obtain⟨d4,ds,rfl,h4,hs⟩:=hs.cons_inv;obtain⟨d5,ds,rfl,h5,hs⟩:=hs.cons_inv;obtain⟨d6,ds,rfl,h6,hs⟩:=hs.cons_inv;obtain⟨d7,ds,rfl,h7,hs⟩:=hs.cons_inv;obtain⟨d8,ds,rfl,h8,hs⟩:=hs.cons_inv;obtain rfl:=hs.nil_inv;obtain⟨n0,rfl,b0⟩:=h0.i64_inv;obtain⟨n1,rfl,b1⟩:=h1.i64_inv;obtain⟨n2,rfl,b2⟩:=h2.i64_inv;obtain⟨n3,rfl,b3⟩:=h3.i64_inv;obtain⟨n4,rfl,b4⟩:=h4.i64_inv;obtain⟨n5,rfl,b5⟩:=h5.i64_inv;obtain⟨n6,rfl,b6⟩:=h6.i64_inv;obtain⟨n7,rfl,b7⟩:=h7.i64_inv;obtain⟨n8,rfl,b8⟩:=h8.i64_inv;exact⟨⟨n0,n1,n2,n3,n4,n5,n6,n7,n8⟩,rfl,⟨b0,b1,b2,b3,b4,b5,b6,b7,b8⟩⟩
def ayZ {d:D}(h:DTy (.slice ZD) d):∃l:List Sign,d=signs l/\l.length<=maxLen/\∀y,y∈l->Sign.OK y:=by
 obtain⟨xs,rfl,hm,hx⟩:=h.slice_inv;obtain⟨l,rfl,hl⟩:=lb (enc:=nT) (P:=Sign.OK) λx hh=>ayY (hx x hh);exact⟨l,rfl,by simpa using hm,hl⟩
structure Alter where
 at_:Int
 sum:Int
 deriving DecidableEq,Inhabited
def qM (x:Alter):D:=.agg [.int x.at_,.int x.sum]
@[simp] def aC7 (x:Alter):(qM x).cells=[.int x.at_,.int x.sum]:=zyz
@[simp] def aHO (x:Alter):D.agg [.int x.at_,.int x.sum]=qM x:=zyz
@[simp] def aC5 (x:Alter):(qM x).c 0=.int x.at_:=zyz
@[simp] def aC6 (x:Alter):(qM x).c 1=.int x.sum:=zyz
def alters (l:List Alter):D:=.list (l.map qM)
@[simp] def aFe (l:List Alter):(alters l).l=l.map qM:=zyz
@[simp] def aFd (l:List Alter):(alters l).cells=[alters l]:=zyz
abbrev Zt:Ty:=.agg [.int .i64,.int .i64]
def Alter.OK (x:Alter):Prop:=bl x.at_/\bl x.sum
def alQ {d:D}(h:DTy Zt d):∃x:Alter,d=qM x/\x.OK:=by
 obtain⟨ds,rfl,hs⟩:=h.agg_inv;obtain⟨d0,ds,rfl,h0,hs⟩:=hs.cons_inv;obtain⟨d1,ds,rfl,h1,hs⟩:=hs.cons_inv;obtain rfl:=hs.nil_inv;obtain⟨n0,rfl,b0⟩:=h0.i64_inv;obtain⟨n1,rfl,b1⟩:=h1.i64_inv;exact⟨⟨n0,n1⟩,rfl,⟨b0,b1⟩⟩
def alR {d:D}(h:DTy (.slice Zt) d):∃l:List Alter,d=alters l/\l.length<=maxLen/\∀y,y∈l->Alter.OK y:=by
 obtain⟨xs,rfl,hm,hx⟩:=h.slice_inv;obtain⟨l,rfl,hl⟩:=lb (enc:=qM) (P:=Alter.OK) λx hh=>alQ (hx x hh);exact⟨l,rfl,by simpa using hm,hl⟩
structure Act where
 kind:Int
 who:Int
 to:Int
 part:Int
 at_:Int
 sum:Int
 day:Int
 city:Int
 form:Int
 deriving DecidableEq,Inhabited
abbrev zzw (x:Act):List D:=[.int x.kind,.int x.who,.int x.to,.int x.part,.int x.at_,.int x.sum,.int x.day,.int x.city,.int x.form]
def su (x:Act):D:=.agg (zzw x)
@[simp] def aC4 (x:Act):(su x).cells=(zzw x):=zyz
@[simp] def aHN (x:Act):D.agg (zzw x)=su x:=zyz
@[simp] def aE4 (x:Act):lH 9 (su x)=su x:=zyz
@[simp] def aC2 (x:Act):(su x).c 0=.int x.kind:=zyz
@[simp] def aC3 (x:Act):(su x).c 6=.int x.day:=zyz
def acts (l:List Act):D:=.list (l.map su)
@[simp] def aEX (l:List Act):(acts l).l=l.map su:=zyz
@[simp] def aEW (l:List Act):(acts l).cells=[acts l]:=zyz
abbrev Zs:Ty:=.agg [.int .i64,.int .i64,.int .i64,.int .i64,.int .i64,.int .i64,.int .i64,.int .i64,.int .i64]
def Act.OK (x:Act):Prop:=bl x.kind/\bl x.who/\bl x.to/\bl x.part/\bl x.at_/\bl x.sum/\bl x.day/\bl x.city/\bl x.form
def alJ {d:D}(h:DTy Zs d):∃x:Act,d=su x/\x.OK:=by
 obtain⟨ds,rfl,hs⟩:=h.agg_inv;obtain⟨d0,ds,rfl,h0,hs⟩:=hs.cons_inv;obtain⟨d1,ds,rfl,h1,hs⟩:=hs.cons_inv;obtain⟨d2,ds,rfl,h2,hs⟩:=hs.cons_inv;obtain⟨d3,ds,rfl,h3,hs⟩:=hs.cons_inv;obtain⟨d4,ds,rfl,h4,hs⟩:=hs.cons_inv;obtain⟨d5,ds,rfl,h5,hs⟩:=hs.cons_inv;obtain⟨d6,ds,rfl,h6,hs⟩:=hs.cons_inv;obtain⟨d7,ds,rfl,h7,hs⟩:=hs.cons_inv;obtain⟨d8,ds,rfl,h8,hs⟩:=hs.cons_inv;obtain rfl:=hs.nil_inv;obtain⟨n0,rfl,b0⟩:=h0.i64_inv;obtain⟨n1,rfl,b1⟩:=h1.i64_inv;obtain⟨n2,rfl,b2⟩:=h2.i64_inv;obtain⟨n3,rfl,b3⟩:=h3.i64_inv;obtain⟨n4,rfl,b4⟩:=h4.i64_inv;obtain⟨n5,rfl,b5⟩:=h5.i64_inv;obtain⟨n6,rfl,b6⟩:=h6.i64_inv;obtain⟨n7,rfl,b7⟩:=h7.i64_inv;obtain⟨n8,rfl,b8⟩:=h8.i64_inv;exact⟨⟨n0,n1,n2,n3,n4,n5,n6,n7,n8⟩,rfl,⟨b0,b1,b2,b3,b4,b5,b6,b7,b8⟩⟩
def alK {d:D}(h:DTy (.slice Zs) d):∃l:List Act,d=acts l/\l.length<=maxLen/\∀y,y∈l->Act.OK y:=by
 obtain⟨xs,rfl,hm,hx⟩:=h.slice_inv;obtain⟨l,rfl,hl⟩:=lb (enc:=su) (P:=Act.OK) λx hh=>alJ (hx x hh);exact⟨l,rfl,by simpa using hm,hl⟩
structure Fact where
 kind:Int
 at_:Int
 n:Int
 deriving DecidableEq,Inhabited
def uc (x:Fact):D:=.agg [.int x.kind,.int x.at_,.int x.n]
@[simp] def aDJ (x:Fact):(uc x).cells=[.int x.kind,.int x.at_,.int x.n]:=zyz
@[simp] def aHU (x:Fact):D.agg [.int x.kind,.int x.at_,.int x.n]=uc x:=zyz
@[simp] def aDG (x:Fact):(uc x).c 0=.int x.kind:=zyz
@[simp] def aDH (x:Fact):(uc x).c 1=.int x.at_:=zyz
@[simp] def aDI (x:Fact):(uc x).c 2=.int x.n:=zyz
def facts (l:List Fact):D:=.list (l.map uc)
@[simp] def aGH (l:List Fact):(facts l).l=l.map uc:=zyz
@[simp] def aGG (l:List Fact):(facts l).cells=[facts l]:=zyz
abbrev Zw:Ty:=.agg [.int .i64,.int .i64,.int .i64]
def Fact.OK (x:Fact):Prop:=bl x.kind/\bl x.at_/\bl x.n
def aoO {d:D}(h:DTy Zw d):∃x:Fact,d=uc x/\x.OK:=by
 obtain⟨ds,rfl,hs⟩:=h.agg_inv;obtain⟨d0,ds,rfl,h0,hs⟩:=hs.cons_inv;obtain⟨d1,ds,rfl,h1,hs⟩:=hs.cons_inv;obtain⟨d2,ds,rfl,h2,hs⟩:=hs.cons_inv;obtain rfl:=hs.nil_inv;obtain⟨n0,rfl,b0⟩:=h0.i64_inv;obtain⟨n1,rfl,b1⟩:=h1.i64_inv;obtain⟨n2,rfl,b2⟩:=h2.i64_inv;exact⟨⟨n0,n1,n2⟩,rfl,⟨b0,b1,b2⟩⟩
def aoP {d:D}(h:DTy (.slice Zw) d):∃l:List Fact,d=facts l/\l.length<=maxLen/\∀y,y∈l->Fact.OK y:=by
 obtain⟨xs,rfl,hm,hx⟩:=h.slice_inv;obtain⟨l,rfl,hl⟩:=lb (enc:=uc) (P:=Fact.OK) λx hh=>aoO (hx x hh);exact⟨l,rfl,by simpa using hm,hl⟩
structure File where
 bill:Bill
 signs:List Sign
 alters:List Alter
 acts:List Act
 facts:List Fact
 deriving Inhabited
abbrev WP (x:File):List D:=[.int x.bill.drawer,.int x.bill.drawee,.int x.bill.payee,.int x.bill.sum,.int x.bill.currency,.int x.bill.tenor.kind,.int x.bill.tenor.n,.int x.bill.tenor.unit,.int x.bill.day,.int x.bill.city,.int x.bill.pay,.int x.bill.need,.int x.bill.rate,.int x.bill.flags,.int x.bill.parts,signs x.signs,alters x.alters,acts x.acts,facts x.facts]
def dK (x:File):D:=.agg (WP x)
@[simp] def aDW (x:File):(dK x).cells=(WP x):=zyz
@[simp] def aHV (x:File):D.agg (WP x)=dK x:=zyz
@[simp] def aE7 (x:File):lH 19 (dK x)=dK x:=zyz
@[simp] def aIh (x:File)(a0 a1 a2 a3 a4 a5 a6 a7 a8 a9 m0 oX a12 oY oZ rZ sc sd tR:D):D.agg (eU [a0,a1,a2,a3,a4,a5,a6,a7,a8,a9,m0,oX,a12,oY,oZ,rZ,sc,sd,tR] 0 (WP x))=dK x:=zyz
@[simp] def aDS (x:File):(dK x).c 2=.int x.bill.payee:=zyz
@[simp] def aDT (x:File):(dK x).c 3=.int x.bill.sum:=zyz
@[simp] def aDU (x:File):(dK x).c 5=.int x.bill.tenor.kind:=zyz
@[simp] def aDV (x:File):(dK x).c 9=.int x.bill.city:=zyz
@[simp] def aDK (x:File):(dK x).c 10=.int x.bill.pay:=zyz
@[simp] def aDL (x:File):(dK x).c 12=.int x.bill.rate:=zyz
@[simp] def aDM (x:File):(dK x).c 13=.int x.bill.flags:=zyz
@[simp] def aDN (x:File):(dK x).c 14=.int x.bill.parts:=zyz
@[simp] def aDO (x:File):(dK x).c 15=signs x.signs:=zyz
@[simp] def aDP (x:File):(dK x).c 16=alters x.alters:=zyz
@[simp] def aDQ (x:File):(dK x).c 17=acts x.acts:=zyz
@[simp] def aDR (x:File):(dK x).c 18=facts x.facts:=zyz
def File.OK (x:File):Prop:=Bill.OK x.bill/\(x.signs.length<=maxLen/\∀y,y∈x.signs->Sign.OK y)/\(x.alters.length<=maxLen/\∀y,y∈x.alters->Alter.OK y)/\(x.acts.length<=maxLen/\∀y,y∈x.acts->Act.OK y)/\(x.facts.length<=maxLen/\∀y,y∈x.facts->Fact.OK y)
structure Case where
 file:File
 sign:Int
 holder:Int
 defence:Int
 due:Int
 day:Int
 deriving Inhabited
def dJ (x:Case):D:=.agg [.int x.file.bill.drawer,.int x.file.bill.drawee,.int x.file.bill.payee,.int x.file.bill.sum,.int x.file.bill.currency,.int x.file.bill.tenor.kind,.int x.file.bill.tenor.n,.int x.file.bill.tenor.unit,.int x.file.bill.day,.int x.file.bill.city,.int x.file.bill.pay,.int x.file.bill.need,.int x.file.bill.rate,.int x.file.bill.flags,.int x.file.bill.parts,signs x.file.signs,alters x.file.alters,acts x.file.acts,facts x.file.facts,.int x.sign,.int x.holder,.int x.defence,.int x.due,.int x.day]
@[simp] def aDs (x:Case):(dJ x).cells=[.int x.file.bill.drawer,.int x.file.bill.drawee,.int x.file.bill.payee,.int x.file.bill.sum,.int x.file.bill.currency,.int x.file.bill.tenor.kind,.int x.file.bill.tenor.n,.int x.file.bill.tenor.unit,.int x.file.bill.day,.int x.file.bill.city,.int x.file.bill.pay,.int x.file.bill.need,.int x.file.bill.rate,.int x.file.bill.flags,.int x.file.bill.parts,signs x.file.signs,alters x.file.alters,acts x.file.acts,facts x.file.facts,.int x.sign,.int x.holder,.int x.defence,.int x.due,.int x.day]:=zyz
@[simp] def aHQ (x:Case):D.agg [.int x.file.bill.drawer,.int x.file.bill.drawee,.int x.file.bill.payee,.int x.file.bill.sum,.int x.file.bill.currency,.int x.file.bill.tenor.kind,.int x.file.bill.tenor.n,.int x.file.bill.tenor.unit,.int x.file.bill.day,.int x.file.bill.city,.int x.file.bill.pay,.int x.file.bill.need,.int x.file.bill.rate,.int x.file.bill.flags,.int x.file.bill.parts,signs x.file.signs,alters x.file.alters,acts x.file.acts,facts x.file.facts,.int x.sign,.int x.holder,.int x.defence,.int x.due,.int x.day]=dJ x:=zyz
@[simp] def alP (x:Case):lH 24 (dJ x)=dJ x:=zyz
@[simp] def awO (x:Case)(a0 a1 a2 a3 a4 a5 a6 a7 a8 a9 m0 oX a12 oY oZ rZ sc sd tR a19 a20 a21 a22 a23:D):D.agg (eU [a0,a1,a2,a3,a4,a5,a6,a7,a8,a9,m0,oX,a12,oY,oZ,rZ,sc,sd,tR,a19,a20,a21,a22,a23] 0 [.int x.file.bill.drawer,.int x.file.bill.drawee,.int x.file.bill.payee,.int x.file.bill.sum,.int x.file.bill.currency,.int x.file.bill.tenor.kind,.int x.file.bill.tenor.n,.int x.file.bill.tenor.unit,.int x.file.bill.day,.int x.file.bill.city,.int x.file.bill.pay,.int x.file.bill.need,.int x.file.bill.rate,.int x.file.bill.flags,.int x.file.bill.parts,signs x.file.signs,alters x.file.alters,acts x.file.acts,facts x.file.facts,.int x.sign,.int x.holder,.int x.defence,.int x.due,.int x.day])=dJ x:=zyz
@[simp] def aDr (x:Case):(dJ x).c 9=.int x.file.bill.city:=zyz
@[simp] def aDk (x:Case):(dJ x).c 10=.int x.file.bill.pay:=zyz
@[simp] def aDl (x:Case):(dJ x).c 15=signs x.file.signs:=zyz
@[simp] def aDm (x:Case):(dJ x).c 19=.int x.sign:=zyz
@[simp] def aDn (x:Case):(dJ x).c 20=.int x.holder:=zyz
@[simp] def aDo (x:Case):(dJ x).c 21=.int x.defence:=zyz
@[simp] def aDp (x:Case):(dJ x).c 22=.int x.due:=zyz
@[simp] def aDq (x:Case):(dJ x).c 23=.int x.day:=zyz
def cases(l:List Case):D:=.list (l.map dJ)
abbrev aCg:Ty:=.agg [.int .i64,.int .i64,.int .i64,.int .i64,.int .i64,.int .i64,.int .i64,.int .i64,.int .i64,.int .i64,.int .i64,.int .i64,.int .i64,.int .i64,.int .i64,.slice ZD,.slice Zt,.slice Zs,.slice Zw,.int .i64,.int .i64,.int .i64,.int .i64,.int .i64]
def Case.OK (x:Case):Prop:=File.OK x.file/\bl x.sign/\bl x.holder/\bl x.defence/\bl x.due/\bl x.day
def amT {d:D}(h:DTy aCg d):∃x:Case,d=dJ x/\x.OK:=by
 obtain⟨ds,rfl,hs⟩:=h.agg_inv;obtain⟨d0,ds,rfl,h0,hs⟩:=hs.cons_inv;obtain⟨d1,ds,rfl,h1,hs⟩:=hs.cons_inv;obtain⟨d2,ds,rfl,h2,hs⟩:=hs.cons_inv;obtain⟨d3,ds,rfl,h3,hs⟩:=hs.cons_inv;obtain⟨d4,ds,rfl,h4,hs⟩:=hs.cons_inv;obtain⟨d5,ds,rfl,h5,hs⟩:=hs.cons_inv;obtain⟨d6,ds,rfl,h6,hs⟩:=hs.cons_inv;obtain⟨d7,ds,rfl,h7,hs⟩:=hs.cons_inv;obtain⟨d8,ds,rfl,h8,hs⟩:=hs.cons_inv;obtain⟨d9,ds,rfl,h9,hs⟩:=hs.cons_inv;obtain⟨d10,ds,rfl,po,hs⟩:=hs.cons_inv;obtain⟨d11,ds,rfl,pq,hs⟩:=hs.cons_inv;obtain⟨d12,ds,rfl,ng,hs⟩:=hs.cons_inv;obtain⟨d13,ds,rfl,h13,hs⟩:=hs.cons_inv;obtain⟨d14,ds,rfl,h14,hs⟩:=hs.cons_inv;obtain⟨d15,ds,rfl,Lr,hs⟩:=hs.cons_inv;obtain⟨d16,ds,rfl,Ls,hs⟩:=hs.cons_inv;obtain⟨d17,ds,rfl,Lt,hs⟩:=hs.cons_inv;obtain⟨d18,ds,rfl,Lu,hs⟩:=hs.cons_inv;obtain⟨d19,ds,rfl,Lv,hs⟩:=hs.cons_inv;obtain⟨d20,ds,rfl,h20,hs⟩:=hs.cons_inv;obtain⟨d21,ds,rfl,h21,hs⟩:=hs.cons_inv;obtain⟨d22,ds,rfl,h22,hs⟩:=hs.cons_inv;obtain⟨d23,ds,rfl,h23,hs⟩:=hs.cons_inv;obtain rfl:=hs.nil_inv;obtain⟨n0,rfl,b0⟩:=h0.i64_inv;obtain⟨n1,rfl,b1⟩:=h1.i64_inv;obtain⟨n2,rfl,b2⟩:=h2.i64_inv;obtain⟨n3,rfl,b3⟩:=h3.i64_inv;obtain⟨n4,rfl,b4⟩:=h4.i64_inv;obtain⟨n5,rfl,b5⟩:=h5.i64_inv;obtain⟨n6,rfl,b6⟩:=h6.i64_inv;obtain⟨n7,rfl,b7⟩:=h7.i64_inv;obtain⟨n8,rfl,b8⟩:=h8.i64_inv;obtain⟨n9,rfl,b9⟩:=h9.i64_inv;obtain⟨n10,rfl,b10⟩:=po.i64_inv;obtain⟨n11,rfl,b11⟩:=pq.i64_inv;obtain⟨n12,rfl,b12⟩:=ng.i64_inv;obtain⟨n13,rfl,b13⟩:=h13.i64_inv;obtain⟨n14,rfl,b14⟩:=h14.i64_inv;obtain⟨n15,rfl,b15,c15⟩:=ayZ Lr;obtain⟨n16,rfl,b16,c16⟩:=alR Ls;obtain⟨n17,rfl,b17,c17⟩:=alK Lt;obtain⟨n18,rfl,b18,c18⟩:=aoP Lu;obtain⟨n19,rfl,b19⟩:=Lv.i64_inv;obtain⟨n20,rfl,b20⟩:=h20.i64_inv;obtain⟨n21,rfl,b21⟩:=h21.i64_inv;obtain⟨n22,rfl,b22⟩:=h22.i64_inv;obtain⟨n23,rfl,b23⟩:=h23.i64_inv;exact⟨⟨⟨⟨n0,n1,n2,n3,n4,⟨n5,n6,n7⟩,n8,n9,n10,n11,n12,n13,n14⟩,n15,n16,n17,n18⟩,n19,n20,n21,n22,n23⟩,rfl,⟨⟨⟨b0,b1,b2,b3,b4,⟨b5,b6,b7⟩,b8,b9,b10,b11,b12,b13,b14⟩,⟨b15,c15⟩,⟨b16,c16⟩,⟨b17,c17⟩,⟨b18,c18⟩⟩,b19,b20,b21,b22,b23⟩⟩
structure Cell where
 known:Bool
 n:Int
 deriving DecidableEq,Inhabited
def cg (x:Cell):D:=.agg [.bool x.known,.int x.n]
@[simp] def aDv (x:Cell):(cg x).cells=[.bool x.known,.int x.n]:=zyz
@[simp] def aHR (x:Cell):D.agg [.bool x.known,.int x.n]=cg x:=zyz
@[simp] def aDt (x:Cell):(cg x).c 0=.bool x.known:=zyz
@[simp] def aDu (x:Cell):(cg x).c 1=.int x.n:=zyz
def cells (l:List Cell):D:=.list (l.map cg)
@[simp] def aFu (l:List Cell):(cells l).l=l.map cg:=zyz
@[simp] def aFt (l:List Cell):(cells l).cells=[cells l]:=zyz
structure Said where
 cell:Cell
 order:Int
 path:List Int
 err:Int
 deriving Inhabited
def iO (x:Said):D:=.agg [.bool x.cell.known,.int x.cell.n,.int x.order,ints x.path,.int x.err]
@[simp] def aEy (x:Said):(iO x).cells=[.bool x.cell.known,.int x.cell.n,.int x.order,ints x.path,.int x.err]:=zyz
@[simp] def aH3 (x:Said):D.agg [.bool x.cell.known,.int x.cell.n,.int x.order,ints x.path,.int x.err]=iO x:=zyz
@[simp] def aFa (x:Said):lH 5 (iO x)=iO x:=zyz
@[simp] def aEt (x:Said):(iO x).c 0=.bool x.cell.known:=zyz
@[simp] def aEu (x:Said):(iO x).c 1=.int x.cell.n:=zyz
@[simp] def aEv (x:Said):(iO x).c 2=.int x.order:=zyz
@[simp] def aEw (x:Said):(iO x).c 3=ints x.path:=zyz
@[simp] def aEx (x:Said):(iO x).c 4=.int x.err:=zyz
@[simp] def aIU (a0 x0:D):eU [a0] 0 [x0]=[x0]:=zyz
@[simp] def aIV (a0 a1 x0 x1:D):eU [a0,a1] 0 [x0,x1]=[x0,x1]:=zyz
@[simp] def aIW (a0 a1 a2 x0 x1 x2:D):eU [a0,a1,a2] 0 [x0,x1,x2]=[x0,x1,x2]:=zyz
@[simp] def aIX (a0 a1 a2 a3 x0 x1 x2 x3:D):eU [a0,a1,a2,a3] 0 [x0,x1,x2,x3]=[x0,x1,x2,x3]:=zyz
@[simp] def aIY (a0 a1 a2 a3 a4 x0 x1 x2 x3 x4:D):eU [a0,a1,a2,a3,a4] 0 [x0,x1,x2,x3,x4]=[x0,x1,x2,x3,x4]:=zyz
@[simp] def aIZ (a0 a1 a2 a3 a4 a5 x0 x1 x2 x3 x4 x5:D):eU [a0,a1,a2,a3,a4,a5] 0 [x0,x1,x2,x3,x4,x5]=[x0,x1,x2,x3,x4,x5]:=zyz
@[simp] def aI0 (a0 a1 a2 a3 a4 a5 a6 a7 a8 x0 x1 x2 x3 x4 x5 x6 x7 x8:D):eU [a0,a1,a2,a3,a4,a5,a6,a7,a8] 0 [x0,x1,x2,x3,x4,x5,x6,x7,x8]=[x0,x1,x2,x3,x4,x5,x6,x7,x8]:=zyz
end Rm
set_option maxRecDepth 100000
namespace Rm
open Go Go.Proofs Cx Go.RowKit Go.Lib
def bD (day:Int):Int×Int×Int:=
 let n:=day+730425
 let e:=n/146097
 let r:=n%146097
 let y:=(r-r/1460+r/36524-r/146096)/365
 let r:=r-(365*y+y/4-y/100)
 let m:=(5*r+2)/153
 let Ld:=r-(153*m+2)/5+1
 let month:=if 12<m+3 then m+3-12 else m+3
 (if month<3 then y+400*e+1 else y+400*e,month,Ld)
def nw (rest feasts shut:List Int)(day:Int):Bool:=
 !rest.contains ((day+5)%7)&&(!feasts.contains (100*(bD day).2.1+(bD day).2.2)&& !shut.contains day)
def aba (rest feasts shut:List Int)(a b:Int):List Int:=((List.range (b-a+1).toNat).map λ(k:Nat)=>a+k).filter (nw rest feasts shut)
def zq (d:D):List Int:=d.l.map D.i
def abb (ds:List D):List D:=
 let c:=(ds.getD 2 .none).deref
 (aba (zq (c.c 3)) (zq (c.c 4)) (zq (c.c 5)) (ds.getD 0 .none).deref.i (ds.getD 1 .none).deref.i).map λd=>.tup [.int d]
def AQ (r:D)(city:Int):Int:=if 0<=city/\city<(r.c 1).l.length then(((r.c 1).l.getD city.toNat .none).c 1).i else-1
def Uz (ds:List D):D:=
 let r:=ds.getD 0 .none
 let forum:=(ds.getD 1 .none).i
 let c:=ds.getD 2 .none
 let s:=(c.c 15).l.getD (c.c 19).i.toNat .none
 let who:=(s.c 2).i
 if who<0\/(r.c 3).l.length<=who\/forum<0\/(r.c 4).l.length<=forum then .list [] else
 let out:=[forum,AQ r (s.c 7).i,AQ r (c.c 10).i,AQ r (c.c 9).i,AQ r (((r.c 3).l.getD who.toNat .none).c 1).i]
 if(-1)∈out then .list [] else ints out
def aby:List (Nat×(aQ->List D->Option D)):=[(180,λ_ ds=>B8 ds),(40,CQ (ab JG) (ab JH) Uz),(204,GI (ab tY) 1000 1 abb),(82,Al),(116,xN 116),(176,xN 176),(178,xN 178)]
def ext:Nat->Option (aQ->List D->Option D):=bk aby
def azd:TabOK ctx tab ext:=by
 refine⟨clos,its,λf pc _ h=>aze f pc h,λf g hg Z hΦ eF ds d h=>?_⟩
 have:=GR (R:=λf (g:aQ->List D->Option D)=>∀Z,dt ctx Z->gO ctx Z->∀ds d,g Z ds=some d->(∀s,ctx.sig f=some s->AJ ctx f s ds d)/\
  ∀cs ys,ctx.cap f=some cs->kF cs.args cs.res=some ys->∃xs,d=.list xs/\(∀x,x∈xs->∃ds',x=.tup ds'/\ds'.length=ys.length)/\me ctx f cs.caps ys ds xs) (l:=aby)
  ⟨λZ hΦ eF ds d h=>⟨λs hs=>by obtain⟨s',h1,h2⟩:=aql ds d h;rw[hs] at h1;cases h1;exact h2,λcs ys hc hi=>by cases hc⟩,
   λZ hΦ eF ds d h=>⟨λs hs=>by cases hs;exact⟨λ_=>av3 clos hΦ eF Tryz.func40 (aw JG afc) (aw JH afd) h,λshs obs hm=>by cases hm⟩,λcs ys hc hi=>by cases hc⟩,
   λZ hΦ eF ds d h=>⟨λs hs=>(by cases hs),λcs ys hc hi=>by
    cases hc;cases hi;exact atH clos hΦ eF Tryz.func204 amZ h rfl⟩,
   λZ hΦ eF ds d h=>⟨λs hs=>by obtain⟨s',h1,h2⟩:=ax9 hΦ h;rw[hs] at h1;cases h1;exact h2,λcs ys hc hi=>by cases hc⟩,
   λZ hΦ eF ds d h=>⟨λs hs=>by cases hs;exact⟨λ_=>ZH (Z:=Z) rfl rfl h,λshs obs hm=>by cases hm⟩,λcs ys hc hi=>by cases hc⟩,
   λZ hΦ eF ds d h=>⟨λs hs=>by cases hs;exact⟨λ_=>ZH (Z:=Z) rfl rfl h,λshs obs hm=>by cases hm⟩,λcs ys hc hi=>by cases hc⟩,
   λZ hΦ eF ds d h=>⟨λs hs=>by cases hs;exact⟨λ_=>ZH (Z:=Z) rfl rfl h,λshs obs hm=>by cases hm⟩,λcs ys hc hi=>by cases hc⟩,trivial⟩ f g hg
 exact this Z hΦ eF ds d h
abbrev T:cT:=fP tab ext
theorem zyw {ds:List D}{d:D}{t:PT}(k:Nat){f:Nat}{x:PC}(he:tree x=t)(h:aJ (fP tab ext) t (lL ds) (λx=>x=.ret d))(hl:De[k]?=some (f,x):=by kernel_rfl)(hx:ext f=none:=by rfl):ah (fP tab ext) f ds d:=.of_tree hx (lA k hl) he h
def Wt {f:Nat}{ds:List D}{d:D}(hx:ext f=some (xN f))(h:ah T1 f ds d):ah T f ds d:=.of_ext hx ⟨0,λ_ _=>aCq h⟩
def ah.of_nsl {tab:Nat->Option PC}{ext:Nat->Option (aQ->List D->Option D)}{f:Nat}{pa pb:PC}{spec:List D->D}{ds:List D}{ta tb:PT}(hx:ext f=some (CQ pa pb spec))(hta:tree pa=ta)(htb:tree pb=tb)
 (h:(∃xs,xs≠[]/\spec ds=.list xs/\aJ (fP tab ext) ta (lL ds) (λx=>x=.ret (.list xs)))\/(spec ds=.list []/\aJ (fP tab ext) tb (lL ds) (λx=>x=.ret (.list [])))):ah (fP tab ext) f ds (spec ds):=by
 refine ah.of_ext hx ?_;rcases h with⟨xs,h1,h2,h3⟩|⟨h2,h3⟩
 .obtain⟨x,rfl,n0,hn⟩:=O1 (c:=pa) (hta▸h3);refine⟨n0,λn hle=>?_⟩;unfold CQ;rw[if_pos (.inl ⟨n,xs,hn n hle,h1,h2⟩)]
 .obtain⟨x,rfl,n0,hn⟩:=O1 (c:=pb) (htb▸h3);refine⟨n0,λn hle=>?_⟩;unfold CQ;rw[if_pos (.inr ⟨n,hn n hle,h2⟩)]
end Rm
namespace Rm
open Go Go.Proofs Cx
def fy (n:Nat)(p:Nat->Bool):Bool:=(List.range n).all p
def aau {n:Nat}{p:Nat->Bool}(h:∀k,k<n->p k=true):fy n p=true:=bR.2 λk hk=>h k (cw.1 hk)
def alO {n k:Nat}{p:Nat->Bool}(hk:k<n)(h:p k=false):fy n p=false:=List.all_eq_false.2 ⟨k,cw.2 hk,by simp[h]⟩
def ye {n:Nat}{p:Nat->Bool}:fy n p=true↔∀k,k<n->p k=true:=⟨λh k hk=>bR.1 h k (cw.2 hk),aau⟩
def ml (n:Nat)(f:Nat->Int):Int:=(((List.range n).map f).find? λx=>x !=0).getD 0
def abJ {n:Nat}{f:Nat->Int}(h:∀k,k<n->f k=0):ml n f=0:=by
 unfold ml;rw[vE.2]
 .rfl
 .intro x hx;obtain⟨k,hk,rfl⟩:=dW.1 hx;simp[h k (cw.1 hk)]
def abI {n k:Nat}{f:Nat->Int}(hk:k<n)(hj:∀j,j<k->f j=0)(h:f k≠0):ml n f=f k:=by
 unfold ml;have e:List.range n=List.range k++k::(List.range' (k+1) (n-k-1)):=by
  rw[Pm,Pm,<-Jg];have:=List.range'_append_1 (s:=0) (m:=k) (n:=n-k-1+1);rw[iM] at this;rw[this];congr 1;omega
 rw[e,mi,List.find?_append,vE.2,Option.none_or,fO,List.find?_cons_of_pos (by simpa using h)]
 .rfl
 .intro x hx;obtain⟨j,wy,rfl⟩:=dW.1 hx;simp[hj j (cw.1 wy)]
def Ra {n:Nat}{f:Nat->Int}:ml n f=0↔∀k,k<n->f k=0:=by
 refine⟨λh k=>?_,abJ⟩
 induction k using Nat.strongRecOn with
 |ind k ih=>
  intro hk;refine vB λaB=>?_;rw[abI hk (λj hj=>ih j hj (by omega)) aB] at h;exact aB h
section
variable {T:cT} {id:Nat} {bL bK lr lo:List Nat} {a:PC} {O:Env} {Q:Out->Prop}
def gX (N:Nat)(p:Nat->Bool)(str gr:Nat->List D)(h0:lr.map O.r=str 0/\lo.map O.o=gr 0)
 (step:∀k,k<N->p k=true->aJ T (round id bL bK lr lo a) (O.put lr (str k) lo (gr k)) (fV O id bL bK lr lo (λvr vo=>vr=str (k+1)/\vo=gr (k+1)) Q))
 (bad:∀k,k<N->p k=false->fy N p=false->aJ T (round id bL bK lr lo a) (O.put lr (str k) lo (gr k)) (fV O id bL bK lr lo (λ_ _=>False) Q))
 (last:fy N p=true->aJ T (round id bL bK lr lo a) (O.put lr (str N) lo (gr N)) (fV O id bL bK lr lo (λ_ _=>False) Q)):aN T (.block id bL bK (.loop lr lo a)) O Q:=
 .scan N (λk=>p k=true) str gr h0 (λk hk _ h=>step k hk h) (λk hk _ h=>bad k hk (by simpa using h) (alO hk (by simpa using h))) (λh=>last (aau h))
def vi (N:Nat)(f:Nat->Int)(str gr:Nat->List D)(h0:lr.map O.r=str 0/\lo.map O.o=gr 0)
 (step:∀k,k<N->f k=0->aJ T (round id bL bK lr lo a) (O.put lr (str k) lo (gr k)) (fV O id bL bK lr lo (λvr vo=>vr=str (k+1)/\vo=gr (k+1)) Q))
 (bad:∀k,k<N->f k≠0->ml N f=f k->aJ T (round id bL bK lr lo a) (O.put lr (str k) lo (gr k)) (fV O id bL bK lr lo (λ_ _=>False) Q))
 (last:ml N f=0->aJ T (round id bL bK lr lo a) (O.put lr (str N) lo (gr N)) (fV O id bL bK lr lo (λ_ _=>False) Q)):aN T (.block id bL bK (.loop lr lo a)) O Q:=
 .scan N (λk=>f k=0) str gr h0 (λk hk _ h=>step k hk h) (λk hk hj h=>bad k hk h (abI hk hj h)) (λh=>last (abJ h))
end
def bu {k n:Nat}(h:k<n)(hn:n<=4294967296):i64.wrap ((k:Int)+1)=(k:Int)+1:=aW (by omega)
def xR {k:Nat}(hn:k<=4294967296):i64.wrap ((k:Int)-1)=(k:Int)-1:=aW (by omega)
def aG (i n:Int):Bool:=decide (0<=i)&&decide (i<n)
def wi (n a b:Int):Bool:=decide (a<=n)&&decide (n<=b)
def gL (i n:Int):ah T 105 [.int i,.int n] (.bool (aG i n)):=by
 refine zyw 15 aBw ?_;simp[Yz,aG];by_cases h:0<=i<;>simp[h]
def rM (i n:Int):ah T 49 [.int i,.int n] (.bool (aG i n)):=by
 refine zyw 9 aBK ?_;simp[YN,aG];by_cases h:0<=i<;>simp[h]
def cJ (n a b:Int):ah T 74 [.int n,.int a,.int b] (.bool (wi n a b)):=by
 refine zyw 96 aAp ?_;simp[XG,wi];by_cases h:a<=n<;>simp[h]
def idx_eq {α:Type}[DecidableEq α]{l:List α}{x z:α}{k:Nat}(hk:k<l.length)(hj:∀j,j<k->l.getD j z≠x)(h:¬l.getD k z≠x):x∈l/\l.findIdx (λy=>decide (y=x))=k:=by
 have e:l[k]=x:=by simpa [hk] using h
 refine⟨e▸bW hk,(List.findIdx_eq hk).2 ⟨by simp[e],λj je=>?_⟩⟩;have gT:j<l.length:=by omega
 simpa [gT] using hj j je
def adK {α:Type}[DecidableEq α]{l:List α}{x z:α}(hj:∀j,j<l.length->l.getD j z≠x):¬x∈l:=λhm=>by
 obtain⟨j,gT,rfl⟩:=lE hm;have:=hj j gT;simp[gT] at this
def wS {α:Type}[DecidableEq α](l:List α)(x:α):Int:=if x∈l then(l.findIdx (λy=>decide (y=x)):Nat) else-1
def hasB {α:Type}[DecidableEq α](l:List α)(x:α):Bool:=l.any λy=>decide (y=x)
def Rx {α:Type}[DecidableEq α]{l:List α}{x:α}:hasB l x=true↔x∈l:=by simp[hasB]
def ack {α:Type}[DecidableEq α]{l:List α}{x:α}:hasB l x=false↔¬x∈l:=by rw[<-Rx];simp
def adJ {α:Type}[DecidableEq α](l:List α)(x:α):decide (0<=wS l x)=hasB l x:=by
 unfold wS;by_cases h:x∈l
 .rw[Rx.2 h];simp[h]
 .rw[ack.2 h];simp[h]
@[simp] def aFD (a b:ByteArray):BS .eql a b=decide (a=b):=by
  simp only[BS,ByteArray.toList_eq];by_cases h:a=b
  .subst h;simp
  .rw[decide_eq_false h,beq_eq_false_iff_ne];intro e;have:a.data=b.data:=by rw[<-vz];exact e
   exact h (by cases a;cases b;cases this;rfl)
@[simp] def aGu (O:Env)(x i:PE):PE.ev O (.sidx x i)=.v (.int .u8 ((PE.ev O x).s.data.getD (PE.ev O i).i.toNat 0).toNat):=zyz
@[simp] def aGy (O:Env)(x i:PE):PE.ev O (.sok x i)=.v (.bool (decide (0<=(PE.ev O i).i/\(PE.ev O i).i<(PE.ev O x).s.size))):=zyz
@[simp] def aI1 (a:ByteArray):(str a).s=a:=zyz
def alk (l:List Int)(x:Int)(hl:l.length<=4294967296):ah T 124 [ints l,.int x] (.int (wS l x)):=by
 refine zyw 20 aBT ?_;simp[YW];refine .scan l.length (λk=>l.getD k 0≠x) (λk=>[.int 0,.int k]) (λ_=>[]) ?_ (λk hk hj ho=>?_) (λk hk hj ho=>?_) (λhj=>?_)
 .simp
 .have hw:=bu hk hl;simp[hk] at ho;have eW:¬x=l[k]:=λe=>ho e.symm;simp[Wb,Iw,hk,hw,ints,ho,eW]
 .obtain⟨hm,he⟩:=idx_eq hk hj ho;simp[hk] at ho;simp[Wb,Iw,hk,ints,ho,wS,hm,he]
 .have:=adK hj;simp[Wb,Iw,wS,this,ints]
def AG (l:List Int)(x:Int)(hl:l.length<=4294967296):ah T 81 [ints l,.int x] (.bool (hasB l x)):=by
 refine zyw 19 aBO ?_;simp[YR];refine⟨_,alk l x hl,?_⟩;have:=adJ l x;simp at this ⊢;exact this
def alm (l:List ByteArray)(x:ByteArray)(hl:l.length<=4294967296):ah T 215 [strs l,str x] (.int (wS l x)):=by
 refine zyw 55 aBU ?_;simp[YX];refine .scan l.length (λk=>l.getD k default≠x) (λk=>[.int 0,.int k]) (λ_=>[]) ?_ (λk hk hj ho=>?_) (λk hk hj ho=>?_) (λhj=>?_)
 .simp
 .have hw:=bu hk hl;simp[hk] at ho;have eW:¬x=l[k]:=λe=>ho e.symm;simp[Wc,Ix,hk,hw,strs,ho,eW]
 .obtain⟨hm,he⟩:=idx_eq hk hj ho;simp[hk] at ho;simp[Wc,Ix,hk,strs,ho,wS,hm,he]
 .have:=adK hj;simp[Wc,Ix,wS,this,strs]
def ald (l:List ByteArray)(x:ByteArray)(hl:l.length<=4294967296):ah T 200 [strs l,str x] (.bool (hasB l x)):=by
 refine zyw 54 aBP ?_;simp[YS];refine⟨_,alm l x hl,?_⟩;have:=adJ l x;simp at this ⊢;exact this
def oK (l:List Int)(a b:Int)(k:Nat):Bool:=wi (l.getD k 0) a b&&(k==0||decide (l.getD (k-1) 0<l.getD k 0))
def rising (l:List Int)(a b:Int):Bool:=fy l.length (oK l a b)
def IC (l:List Int)(a b:Int)(hl:l.length<=4294967296):ah T 164 [ints l,.int a,.int b] (.bool (rising l a b)):=by
 refine zyw 59 aBC ?_;simp[YG];refine gX l.length (oK l a b) (λk=>[.bool false,.int k]) (λ_=>[]) ?_ (λk hk ho=>?_) (λk hk ho hb=>?_) (λhj=>?_)
 .simp
 .have hw:=bu hk hl;simp[oK,wi,hk] at ho;obtain⟨⟨h1,h2⟩,h3⟩:=ho;have cA:¬l[k]<a:=by omega
  have gi:¬b<l[k]:=by omega
  by_cases gD:0<k
  .have bN:k-1<l.length:=by omega
   have dk:i64.wrap ((k:Int)-1)=((k-1:Nat):Int):=by rw[xR (by omega)];omega
   have gQ:¬l[k]<=l[k-1]:=by
        rcases h3 with h3|h3
        .omega
        .simp[bN] at h3;omega
   simp[DF,xw,hk,hw,dk,ints,cA,gi,gQ,gD,bN]
  .simp[DF,xw,hk,hw,ints,cA,gi,gD]
 .have hf:rising l a b=false:=hb;simp[oK,wi,hk] at ho;by_cases h1:l[k]<a
  .simp[DF,xw,hk,ints,h1,hf]
  by_cases h2:b<l[k]
  .simp[DF,xw,hk,ints,h1,h2,hf]
  have h3:=ho (by omega) (by omega);have gD:0<k:=by omega
  have bN:k-1<l.length:=by omega
  have dk:i64.wrap ((k:Int)-1)=((k-1:Nat):Int):=by rw[xR (by omega)];omega
  have gQ:=h3.2;simp[bN] at gQ;simp[DF,xw,hk,dk,ints,h1,h2,gQ,gD,bN,hf]
 .have hf:rising l a b=true:=hj;simp[DF,xw,hf]
def GO (c:Int):Bool:=wi c 97 122||wi c 65 90
def zI (i:Nat)(c:Int):Bool:=GO c||(i !=0&&(decide (c=95)||wi c 48 57))
def ED (s:ByteArray)(k:Nat):Int:=((s.data.toList.getD k 0).toNat:Nat)
def jO (s:ByteArray):Bool:=decide (1<=s.size)&&decide (s.size<=20)&&fy s.size (λk=>zI k (ED s k))
def Ju {s:ByteArray}{k:Nat}(h:k<s.data.size):(s.data[k].toNat:Int)=ED s k:=by
 unfold ED;rw[aK,bI (by simpa using h)];rfl
def ajc {s:ByteArray}:s=⟨#[]⟩↔s.size=0:=by
 constructor
 .rintro rfl;rfl
 .intro h;cases s with|mk d=>congr;exact O9 h
def aye (s:ByteArray):ah T 199 [str s] (.bool (jO s)):=by
 refine zyw 53 aBx ?_;simp[YA];by_cases h0:s=⟨#[]⟩
 .have hn:jO s=false:=by simp[jO,ajc.1 h0]
  rw[hn];simp[h0]
 by_cases h1:(20:Int)<s.size
 .have cA:¬s.size<=20:=by omega
  simp[h0,h1,jO,cA]
 have hz:1<=s.size:=by
  have:s.size≠0:=λe=>h0 (ajc.2 e);omega
 have cA:s.size<=20:=by omega
 simp[h0,h1];refine⟨by omega,gX s.size (λk=>zI k (ED s k)) (λk=>[.bool false,.int k]) (λ_=>[]) ?_ (λk hk ho=>?_) (λk hk ho hb=>?_) (λhj=>?_)⟩
 .simp
 .have hw:=bu hk (by omega);have br:k<s.data.size:=hk;have hg:=Ju br;simp[zI,GO,wi] at ho;simp[VV,If,hk,br,hw,hg];omega
 .have br:k<s.data.size:=hk;have hg:=Ju br;have hn:jO s=false:=by simp[jO,hb]
  simp[zI,GO,wi] at ho;simp[VV,If,hk,br,hg,hn];omega
 .have hn:jO s=true:=by simp[jO,hj,hz,cA]
  have hd:s.data.size=s.size:=rfl;simp[VV,If,hn,hd]
def ahN (c:Int):ah T 172 [.v (.int .u8 c)] (.bool (GO c)):=by
 refine zyw 93 aAi ?_;simp[Xz,GO,wi];by_cases h:97<=c<;>by_cases h2:c<=122<;>by_cases h3:65<=c<;>by_cases h4:c<=90<;>simp[h,h2,h3,h4]
def axh (s:ByteArray):ah T 147 [str s] (.bool (jO s)):=by
 refine zyw 92 aAj ?_;simp[XA];by_cases h0:(s.size:Int)<1
 .have hn:jO s=false:=by simp[jO];omega
  simp[h0,hn]
 by_cases h1:(20:Int)<s.size
 .have hn:jO s=false:=by simp[jO];omega
  simp[h0,h1,hn]
 rw[if_neg (by omega)];refine gX s.size (λk=>zI k (ED s k)) (λk=>[.bool false,.int k]) (λ_=>[]) ?_ (λk hk ho=>?_) (λk hk ho hb=>?_) (λhj=>?_)
 .simp
 .have hw:=bu hk (by omega);have br:k<s.data.size:=hk;have hg:=Ju br;simp[zI,wi] at ho;simp[Vq,HI,hk,br,hw,hg];refine⟨_,ahN _,?_⟩;simp[hw];intro g1 g2;exfalso;rcases ho with h|h
  .rw[h] at g1;cases g1
  .omega
 .have br:k<s.data.size:=hk;have hg:=Ju br;have hn:jO s=false:=by simp[jO,hb]
  simp[zI,wi] at ho;simp[Vq,HI,hk,br,hg,hn];refine⟨_,ahN _,?_⟩;simp[ho.1];omega
 .have hn:jO s=true:=by simp[jO,hj];omega
  simp[Vq,HI,hn]
def axf (l:List ByteArray)(n:Nat)(x:ByteArray)(hn:n<=l.length)(hl:l.length<=4294967296):ah T 148 [strs l,.int n,str x] (.bool (hasB (l.take n) x)):=by
 refine zyw 94 aAe ?_;simp[Xw];refine .scan n (λk=>l.getD k default≠x) (λk=>[.bool false,.int k]) (λ_=>[]) ?_ (λk hk hj ho=>?_) (λk hk hj ho=>?_) (λhj=>?_)
 .simp
 .have br:k<l.length:=by omega
  have hw:=bu br hl;simp[br] at ho;simp[Vp,HG,hk,br,hw,strs,ho]
 .have br:k<l.length:=by omega
  simp[br] at ho;have hm:hasB (l.take n) x=true:=Rx.2 (by rw[<-ho,als];exact⟨k,by omega,rfl⟩);simp[Vp,HG,hk,br,strs,ho,hm]
 .have hm:hasB (l.take n) x=false:=ack.2 (λh=>by
   rw[als] at h;obtain⟨k,hk,e⟩:=h;have:=hj k (by omega);simp[show k<l.length by omega] at this;exact this e)
  simp[Vp,HG,hm]
def iS (l:List ByteArray)(i:Nat):Int:=if jO (l.getD i default)=false then 2 else if hasB (l.take i) (l.getD i default) then 5 else 0
def TA (l:List ByteArray)(i n:Nat)(h:i<n):iS (l.take n) i=iS l i:=by
 unfold iS;rw[aK,List.getElem?_take_of_lt h,List.take_take,qw (by omega),<-aK]
def Hn (l:List ByteArray)(i:Nat)(hi:i<l.length)(hl:l.length<=4294967296):ah T 108 [strs l,.int i] (.int (iS l i)):=by
 refine zyw 91 aAs ?_;simp[XJ,hi];refine⟨_,by simpa [strs,hi] using axh l[i],?_⟩;unfold iS;rw[aK,bI hi,kN];cases h1:jO l[i]<;>simp[h1];refine⟨_,by simpa [strs,hi] using axf l i l[i] (by omega) hl,?_⟩;cases h2:hasB (l.take i) l[i]<;>simp[h2]
def aiE (l:List ByteArray)(i:Nat)(hi:i<l.length)(hl:l.length<=4294967296):ah T 163 [strs l,.int i] (.int (iS l i)):=by
 refine zyw 52 aBy ?_;simp[YB,hi];refine⟨_,by simpa [strs,hi] using aye l[i],?_⟩;unfold iS;rw[aK,bI hi,kN];cases h1:jO l[i]<;>simp[h1];refine⟨by omega,_,by simpa [strs,hi] using ald (l.take i) l[i] (by rw[eN];omega),?_⟩;cases h2:hasB (l.take i) l[i]<;>simp[h2]
def kV (l:List ByteArray)(g:Nat->Bool)(i:Nat):Int:=if iS l i≠0 then iS l i else if g i then 0 else 1
def fg (l:List ByteArray)(GU:Int)(g:Nat->Bool):Int:=if GU<l.length then 6 else ml l.length (kV l g)
def Oj (l:List ByteArray)(GU:Int)(f:Nat)(caps:List D)(g:Nat->Bool)(hg:∀i:Nat,i<l.length->ah T f (.int i::caps) (.bool (g i)))(hl:l.length<=4294967296):
 ah T 129 [strs l,.int GU,.clo f caps] (.int (fg l GU g)):=by
 refine zyw 51 aBv ?_;simp[Yy,fg];by_cases h0:GU<l.length
 .simp[h0];intro h;omega
 simp[h0];refine vi l.length (kV l g) (λk=>[.int 0,.int k]) (λ_=>[]) ?_ (λk hk ho=>?_) (λk hk ho hb=>?_) (λhj=>?_)
 .simp
 .have hw:=bu hk hl;have h1:iS l k=0:=by
   refine vB λh=>?_;unfold kV at ho;rw[if_pos h] at ho;exact h ho
  have h2:g k=true:=by
   unfold kV at ho;rw[if_neg (by simpa using h1)] at ho;cases h:g k with
   |true=>rfl
   |false=>rw[h] at ho;simp at ho
  simp[VU,Ie,hk,hw];refine⟨_,aiE l k hk hl,?_⟩;simp[h1];refine⟨_,_,⟨rfl,rfl⟩,_,hg k hk,?_⟩;simp[h2,hw]
 .simp[VU,Ie,hk,hb];refine⟨_,aiE l k hk hl,?_⟩;unfold kV at ho ⊢;by_cases h1:iS l k=0
  .simp[h1] at ho ⊢;refine⟨_,_,⟨rfl,rfl⟩,_,hg k hk,?_⟩;simp[ho]
  .simp[h1]
 .simp[VU,Ie,hj]
def U4 (l:List Int)(a b:Int)(hl:l.length<=4294967296):ah T 149 [ints l,.int a,.int b] (.bool (rising l a b)):=by
 refine zyw 97 aAn ?_;simp[XE];refine gX l.length (oK l a b) (λk=>[.bool false,.int k]) (λ_=>[]) ?_ (λk hk ho=>?_) (λk hk ho hb=>?_) (λhj=>?_)
 .simp
 .have hw:=bu hk hl;simp[oK,hk] at ho;simp[Vu,HM,hk,hw,ints];refine⟨_,cJ _ _ _,?_⟩;by_cases gD:0<k
  .have bN:k-1<l.length:=by omega
   have dk:i64.wrap ((k:Int)-1)=((k-1:Nat):Int):=by rw[xR (by omega)];omega
   have gQ:¬l[k]<=l[k-1]:=by
        rcases ho.2 with h3|h3
        .omega
        .simp[bN] at h3;omega
   simp[ho.1,hk,hw,dk,gQ,gD,bN]
  .simp[ho.1,hk,hw,gD];omega
 .have hf:rising l a b=false:=hb;simp[oK,hk] at ho;simp[Vu,HM,hk,ints,hf];refine⟨_,cJ _ _ _,?_⟩;cases h1:wi l[k] a b with
  |false=>simp
  |true=>
   have h3:=ho h1;have gD:0<k:=by omega
   have bN:k-1<l.length:=by omega
   have dk:i64.wrap ((k:Int)-1)=((k-1:Nat):Int):=by rw[xR (by omega)];omega
   have gQ:=h3.2;simp[bN] at gQ;simp[hk,dk,gQ,gD,bN]
 .have hf:rising l a b=true:=hj;simp[Vu,HM,hf]
def WE (n:Int):n.tdiv 100=if 0<=n then n/100 else-((-n)/100):=by
 split
 .rename_i h;exact AK h
 .rename_i h;have e:n.tdiv 100=-((-n).tdiv 100):=by rw[Int.neg_tdiv,Int.neg_neg]
  rw[e,AK (by omega)]
def ajp (n:Int):n.tmod 100=n-100*n.tdiv 100:=Int.tmod_def n 100
def ak0 {n:Int}(h:bl n):i64.wrap (n.tdiv 100)=n.tdiv 100:=aW (by rw[WE];unfold bl at h;split<;>omega)
def m9 (r:Realm)(c:City):Bool:=fy c.feasts.length (λk=>wi ((c.feasts.getD k 0).tmod 100) 1 31)&&(decide (c.feasts.length<=60)&&decide (c.shut.length<=200)&&aG c.order r.orders.length&&aG c.currency r.currencies.length)&&
 (rising c.rest 0 6&&rising c.feasts 101 1231&&rising c.shut 0 100000)
def ayc (r:Realm)(c:City)(h1:c.rest.length<=4294967296)(h2:c.feasts.length<=4294967296)(h3:c.shut.length<=4294967296):ah T 132 [aU r,gy c] (.bool (m9 r c)):=by
 refine zyw 58 aBu ?_;simp[Yx];refine gX c.feasts.length (λk=>wi ((c.feasts.getD k 0).tmod 100) 1 31) (λk=>[.bool false,.int k]) (λ_=>[]) ?_ (λk hk ho=>?_) (λk hk ho hb=>?_) (λhj=>?_)
 .simp
 .have hw:=bu hk h2;simp[wi,hk] at ho;have g1:¬(c.feasts[k].tmod 100<1):=by omega
  have g2:¬(31<c.feasts[k].tmod 100):=by omega
  simp[VT,Ic,hk,hw,ints,g1,g2]
 .have hf:m9 r c=false:=by simp only[m9,hb,tK]
  simp[wi,hk] at ho;simp[VT,Ic,hk,ints,hf];by_cases g1:c.feasts[k].tmod 100<1
  .simp[g1]
  .have g2:=ho (by omega);simp[g1,g2]
 .simp[VT,Ic];by_cases g1:(c.feasts.length:Int)<=60
  case neg=>
   have hf:m9 r c=false:=by
        have fD:decide (c.feasts.length<=60)=false:=decide_eq_false (by omega);simp only[m9,fD,tK,AD]
   have fD:(60:Int)<c.feasts.length:=by omega
   simp[g1,fD,hf]
  by_cases g2:(c.shut.length:Int)<=200
  case neg=>
   have hf:m9 r c=false:=by
        have fD:decide (c.shut.length<=200)=false:=decide_eq_false (by omega);simp only[m9,fD,tK,AD]
   have mm:(200:Int)<c.shut.length:=by omega
   simp[g1,g2,mm,hf]
  have fD:¬(60:Int)<c.feasts.length:=by omega
  have mm:¬(200:Int)<c.shut.length:=by omega
  have hf:m9 r c=(aG c.order r.orders.length&&aG c.currency r.currencies.length&&(rising c.rest 0 6&&rising c.feasts 101 1231&&rising c.shut 0 100000)):=by
   have e1:decide (c.feasts.length<=60)=true:=decide_eq_true (by omega);have e2:decide (c.shut.length<=200)=true:=decide_eq_true (by omega);simp only[m9,hj,e1,e2,AE]
  rw[hf];simp[g1,g2,fD,mm];refine⟨_,gL _ _,?_⟩;simp;cases e1:aG c.order r.orders.length<;>simp;refine⟨_,gL _ _,?_⟩;simp;cases e2:aG c.currency r.currencies.length<;>simp;refine⟨_,IC _ _ _ h1,?_⟩;simp;cases e3:rising c.rest 0 6<;>simp;refine⟨_,IC _ _ _ h2,?_⟩;simp;cases e4:rising c.feasts 101 1231<;>simp;exact IC _ _ _ h3
def qE (r:Realm)(c:City):Bool:=(wi c.order 0 (r.orders.length-1)&&wi c.currency 0 (r.currencies.length-1)&&decide (c.feasts.length<=60)&&decide (c.shut.length<=200))&&
 fy c.feasts.length (λk=>wi ((c.feasts.getD k 0).tdiv 100) 1 12&&wi ((c.feasts.getD k 0).tmod 100) 1 31)&&(rising c.rest 0 6&&rising c.feasts 0 2000&&rising c.shut 0 100000)
def tI (n:Nat)(h:n<=4294967296):i64.wrap ((n:Int)-1)=(n:Int)-1:=aW (by omega)
def axi (r:Realm)(c:City)(h1:c.rest.length<=4294967296)(h2:c.feasts.length<=4294967296)(h3:c.shut.length<=4294967296)(h4:r.orders.length<=4294967296)(h5:r.currencies.length<=4294967296)(hi:∀y,y∈c.feasts->bl y):
 ah T 109 [aU r,gy c] (.bool (qE r c)):=by
 refine zyw 95 aAl ?_;simp[XC,tI _ h4,tI _ h5];refine⟨_,cJ _ _ _,?_⟩;cases e1:wi c.order 0 (r.orders.length-1)
 case false=>simp[qE,e1]
 simp;refine⟨_,cJ _ _ _,?_⟩;cases e2:wi c.currency 0 (r.currencies.length-1)
 case false=>simp[qE,e1,e2]
 by_cases g1:(c.feasts.length:Int)<=60
 case neg=>
  have hf:qE r c=false:=by
   have fD:decide (c.feasts.length<=60)=false:=decide_eq_false (by omega);simp only[qE,fD,tK,AD]
  have fD:(60:Int)<c.feasts.length:=by omega
  simp[fD,hf]
 by_cases g2:(c.shut.length:Int)<=200
 case neg=>
  have hf:qE r c=false:=by
   have fD:decide (c.shut.length<=200)=false:=decide_eq_false (by omega);simp only[qE,fD,tK,AD]
  have mm:(200:Int)<c.shut.length:=by omega
  simp[mm,hf]
 have fD:¬(60:Int)<c.feasts.length:=by omega
 have mm:¬(200:Int)<c.shut.length:=by omega
 have hf:qE r c=(fy c.feasts.length (λk=>wi ((c.feasts.getD k 0).tdiv 100) 1 12&&wi ((c.feasts.getD k 0).tmod 100) 1 31)&&(rising c.rest 0 6&&rising c.feasts 0 2000&&rising c.shut 0 100000)):=by
  have e3:decide (c.feasts.length<=60)=true:=decide_eq_true (by omega);have e4:decide (c.shut.length<=200)=true:=decide_eq_true (by omega);simp only[qE,e1,e2,e3,e4,AE]
 rw[hf];simp[fD,mm];refine gX c.feasts.length (λk=>wi ((c.feasts.getD k 0).tdiv 100) 1 12&&wi ((c.feasts.getD k 0).tmod 100) 1 31) (λk=>[.bool false,.int k]) (λ_=>[]) ?_ (λk hk ho=>?_) (λk hk ho hb=>?_) (λhj=>?_)
 .simp
 .have hw:=bu hk h2;have hI:=hi _ (bW hk);have hq:i64.wrap (c.feasts[k].tdiv 100)=c.feasts[k].tdiv 100:=ak0 hI;simp[hk] at ho;simp[Vr,HJ,hk,ints,hq];refine⟨_,cJ _ _ _,?_⟩;simp[ho.1,hk];refine⟨_,cJ _ _ _,?_⟩;simp[ho.2,hk,hw]
 .have hI:=hi _ (bW hk);have hq:i64.wrap (c.feasts[k].tdiv 100)=c.feasts[k].tdiv 100:=ak0 hI;simp[hk] at ho;simp only[aK] at hb;rw[hb];simp[Vr,HJ,hk,ints,hq];refine⟨_,cJ _ _ _,?_⟩;cases e3:wi (c.feasts[k].tdiv 100) 1 12 with
  |false=>simp
  |true=>
   have:=ho e3;simp[hk];refine⟨_,cJ _ _ _,?_⟩;simp[this]
 .simp only[aK] at hj;rw[hj];simp[Vr,HJ];refine⟨_,U4 _ _ _ h1,?_⟩;simp;cases e3:rising c.rest 0 6<;>simp;refine⟨_,U4 _ _ _ h2,?_⟩;simp;cases e4:rising c.feasts 0 2000<;>simp;exact U4 _ _ _ h3
def ana (r:Realm)(c:City):qE r c=m9 r c:=by
 rw[rU];have bG:∀(i:Int) (n:Nat),(wi i 0 (n-1)=true)↔(aG i n=true):=by intro i n;simp[wi,aG];omega
 simp only[qE,m9,au,decide_eq_true_eq,bG,rising,ye,oK];constructor
 .rintro⟨⟨⟨⟨⟨a1,a2⟩,a3⟩,a4⟩,a5⟩,⟨a6,a7⟩,a8⟩;refine⟨⟨λk hk=>(a5 k hk).2,⟨⟨⟨a3,a4⟩,a1⟩,a2⟩⟩,⟨a6,λk hk=>?_⟩,a8⟩;have h1:=a5 k hk;have h2:=a7 k hk;simp[wi,ajp,WE] at h1 h2 ⊢;split at h1<;>omega
 .rintro⟨⟨a5,⟨⟨⟨a3,a4⟩,a1⟩,a2⟩⟩,⟨a6,a7⟩,a8⟩;refine⟨⟨⟨⟨⟨a1,a2⟩,a3⟩,a4⟩,λk hk=>?_⟩,⟨a6,λk hk=>?_⟩,a8⟩
  .have h1:=a5 k hk;have h2:=a7 k hk;simp[wi,ajp,WE] at h1 h2 ⊢;split at h1<;>(try split)<;>omega
  .have h2:=a7 k hk;simp[wi] at h2 ⊢;omega
def DS {α β:Type}(f:α->β){l:List α}{k:Nat}(h:k<l.length):(l.take (k+1)).map f=(l.take k).map f++[f l[k]]:=by
 rw[lG h,mi];rfl
def zo (i:Int)(n:Nat):aG i n=wi i 0 ((n:Int)-1):=by
 rw[rU];simp[wi,aG];omega
def yf (o:Order):List Int:=o.choices.map (·.ask)
def Ej (o:Order):List Int:=o.rules.map (·.ask)
def pU (o:Order):Bool:=fy o.choices.length (λk=>aG (o.choices.getD k default).by_ 5)&&(rising (yf o) 0 21&&rising (Ej o) 0 21)
def ayg (o:Order)(h1:o.choices.length<=100000)(h2:o.rules.length<=100000):ah T 135 [gz o] (.bool (pU o)):=by
 refine zyw 62 aBA ?_;simp[YD];refine gX o.choices.length (λk=>aG (o.choices.getD k default).by_ 5) (λk=>[.bool false,.none,.int k]) (λk=>[ints ((o.choices.take k).map (·.ask))]) ?_ (λk hk ho=>?_) (λk hk ho hb=>?_) (λhj=>?_)
 .simp[ints]
 .have hw:=bu hk (by omega);have hl:(o.choices.take k).length=k:=by rw[eN];omega
  simp[hk] at ho;rw[DS _ hk];simp[VW,Ig,hk,hw,ints,hl];refine⟨by omega,_,gL _ _,?_⟩;simp[ho,hw]
 .have hf:pU o=false:=by simp only[pU,hb,tK]
  have hl:(o.choices.take k).length=k:=by rw[eN];omega
  simp[hk] at ho;simp[VW,Ig,hk,ints,hl,hf];refine⟨by omega,_,gL _ _,?_⟩;simp[ho]
 .have hf:pU o=(rising (yf o) 0 21&&rising (Ej o) 0 21):=by simp only[pU,hj,AE]
  rw[hf];simp[VW,Ig];refine aN.forRounds o.rules.length (λk=>[.none,.int k]) (λk=>[ints ((o.rules.take k).map (·.ask))]) ?_ (λk hk=>?_) ?_
  .simp[ints]
  .have hw:=bu hk (by omega);have hl:(o.rules.take k).length=k:=by rw[eN];omega
   rw[DS _ hk];simp[aiv,Oa,hk,hw,ints,hl];omega
  .simp[aiv,Oa];refine⟨_,IC (yf o) _ _ (by simp[yf];omega),?_⟩;simp;cases e1:rising (yf o) 0 21<;>simp;exact IC (Ej o) _ _ (by simp[Ej];omega)
def zM (o:Order)(k:Nat):Bool:=wi (o.choices.getD k default).ask 0 21&&wi (o.choices.getD k default).by_ 0 4&&(k==0||decide ((o.choices.getD (k-1) default).ask<(o.choices.getD k default).ask))
def Db (o:Order)(k:Nat):Bool:=wi (o.rules.getD k default).ask 0 21&&(k==0||decide ((o.rules.getD (k-1) default).ask<(o.rules.getD k default).ask))
def awL (o:Order):(fy o.choices.length (zM o)&&fy o.rules.length (Db o))=pU o:=by
 rw[rU];simp only[pU,au,rising,ye,yf,Ej,fw];have g1:∀k,k<o.choices.length->(oK (o.choices.map (·.ask)) 0 21 k=true↔wi (o.choices.getD k default).ask 0 21=true/\(k=0\/(o.choices.getD (k-1) default).ask<(o.choices.getD k default).ask)):=by
  intro k hk;have bN:k-1<o.choices.length:=by omega
  simp[oK,hk,bN]
 have g2:∀k,k<o.rules.length->(oK (o.rules.map (·.ask)) 0 21 k=true↔wi (o.rules.getD k default).ask 0 21=true/\(k=0\/(o.rules.getD (k-1) default).ask<(o.rules.getD k default).ask)):=by
  intro k hk;have bN:k-1<o.rules.length:=by omega
  simp[oK,hk,bN]
 constructor
 .rintro⟨a,b⟩;refine⟨λk hk=>?_,λk hk=>(g1 k hk).2 ?_,λk hk=>(g2 k hk).2 ?_⟩
  .have:=a k hk;simp[zM,wi,aG] at this ⊢;omega
  .have:=a k hk;simp[zM] at this ⊢;exact⟨this.1.1,this.2⟩
  .have:=b k hk;simp[Db] at this ⊢;exact this
 .rintro⟨c,a,b⟩;refine⟨λk hk=>?_,λk hk=>?_⟩
  .have h1:=(g1 k hk).1 (a k hk);have h2:=c k hk;simp[zM,wi,aG] at h1 h2 ⊢;omega
  .have h1:=(g2 k hk).1 (b k hk);simp[Db] at h1 ⊢;exact h1
def axj (o:Order)(h1:o.choices.length<=100000)(h2:o.rules.length<=100000):ah T 110 [gz o] (.bool (pU o)):=by
 rw[<-awL];refine zyw 100 aAm ?_;simp[XD];refine gX o.choices.length (zM o) (λk=>[.bool false,.int k]) (λ_=>[]) ?_ (λk hk ho=>?_) (λk hk ho hb=>?_) (λhj=>?_)
 .simp
 .have hw:=bu hk (by omega);simp[zM,hk] at ho;simp[Vs,HK,hk];refine⟨_,cJ _ _ _,?_⟩;simp[ho.1.1,hk];refine⟨_,cJ _ _ _,?_⟩;by_cases gD:0<k
  .have bN:k-1<o.choices.length:=by omega
   have dk:i64.wrap ((k:Int)-1)=((k-1:Nat):Int):=by rw[xR (by omega)];omega
   have h3:¬o.choices[k].ask<=o.choices[k-1].ask:=by
        rcases ho.2 with h3|h3
        .omega
        .simp[bN] at h3;omega
   simp[ho.1.2,hk,hw,dk,h3,gD,bN]
  .simp[ho.1.2,hk,hw,gD];omega
 .rw[hb];simp[zM,hk] at ho;simp[Vs,HK,hk];refine⟨_,cJ _ _ _,?_⟩;cases e1:wi o.choices[k].ask 0 21 with
  |false=>simp
  |true=>
   simp[hk];refine⟨_,cJ _ _ _,?_⟩;cases e2:wi o.choices[k].by_ 0 4 with
   |false=>simp
   |true=>
    have h3:=ho e1 e2;have gD:0<k:=by omega
    have bN:k-1<o.choices.length:=by omega
    have dk:i64.wrap ((k:Int)-1)=((k-1:Nat):Int):=by rw[xR (by omega)];omega
    have gQ:=h3.2;simp[bN] at gQ;simp[hk,dk,gQ,gD,bN]
 .rw[hj];simp[Vs,HK];refine gX o.rules.length (Db o) (λk=>[.bool false,.int k]) (λ_=>[]) ?_ (λk hk ho=>?_) (λk hk ho hb=>?_) (λhj=>?_)
  .simp
  .have hw:=bu hk (by omega);simp[Db,hk] at ho;simp[Vt,HL,hk];refine⟨_,cJ _ _ _,?_⟩;by_cases gD:0<k
   .have bN:k-1<o.rules.length:=by omega
    have dk:i64.wrap ((k:Int)-1)=((k-1:Nat):Int):=by rw[xR (by omega)];omega
    have h3:¬o.rules[k].ask<=o.rules[k-1].ask:=by
       rcases ho.2 with h3|h3
       .omega
       .simp[bN] at h3;omega
    simp[ho.1,hk,hw,dk,h3,gD,bN]
   .simp[ho.1,hk,hw,gD];omega
  .rw[hb];simp[Db,hk] at ho;simp[Vt,HL,hk];refine⟨_,cJ _ _ _,?_⟩;cases e1:wi o.rules[k].ask 0 21 with
   |false=>simp
   |true=>
    have h3:=ho e1;have gD:0<k:=by omega
    have bN:k-1<o.rules.length:=by omega
    have dk:i64.wrap ((k:Int)-1)=((k-1:Nat):Int):=by rw[xR (by omega)];omega
    have gQ:=h3.2;simp[bN] at gQ;simp[hk,dk,gQ,gD,bN]
  .rw[hj];simp[Vt,HL]
def fK (r:Realm):List ByteArray:=r.cities.map (·.name)
def gn (r:Realm):List ByteArray:=r.firms.map (·.name)
def fL (r:Realm):List ByteArray:=r.orders.map (·.name)
def ayf (r:Realm)(h1:r.cities.length<=100000)(h2:r.firms.length<=100000)(h3:r.orders.length<=100000):ah T 128 [aU r] (.tup [strs (fK r),strs (gn r),strs (fL r)]):=by
 refine zyw 50 aBz ?_;simp[YC];refine aN.forRounds r.cities.length (λk=>[.none,.int k]) (λk=>[strs ((r.cities.take k).map (·.name))]) ?_ (λk hk=>?_) ?_
 .simp[strs]
 .have hw:=bu hk (by omega);have hl:(r.cities.take k).length=k:=by rw[eN];omega
  rw[DS _ hk];simp[ais,N7,hk,hw,strs,hl];omega
 .simp[ais,N7];refine aN.forRounds r.firms.length (λk=>[.none,.int k]) (λk=>[strs ((r.firms.take k).map (·.name))]) ?_ (λk hk=>?_) ?_
  .simp[strs]
  .have hw:=bu hk (by omega);have hl:(r.firms.take k).length=k:=by rw[eN];omega
   rw[DS _ hk];simp[ait,N8,hk,hw,strs,hl];omega
  .simp[ait,N8];refine aN.forRounds r.orders.length (λk=>[.none,.int k]) (λk=>[strs ((r.orders.take k).map (·.name))]) ?_ (λk hk=>?_) ?_
   .simp[strs]
   .have hw:=bu hk (by omega);have hl:(r.orders.take k).length=k:=by rw[eN];omega
    rw[DS _ hk];simp[aiu,N9,hk,hw,strs,hl];omega
   .simp[aiu,N9,fK,gn,fL]
structure Small (r:Realm):Prop where
 cur:r.currencies.length<=1000
 cities:r.cities.length<=1000
 groups:r.groups.length<=1000
 firms:r.firms.length<=1000
 orders:r.orders.length<=1000
 us:r.usances.length<=1000
 rates:r.rates.length<=1000
 halts:r.halts.length<=1000
 city:∀c,c∈r.cities->c.rest.length<=1000/\c.feasts.length<=1000/\c.shut.length<=1000/\∀y,y∈c.feasts->bl y
 order:∀o,o∈r.orders->o.choices.length<=1000/\o.rules.length<=1000
 rate:∀x,x∈r.rates->bl x.num/\bl x.den
def mV (r:Realm)(k j:Nat):Bool:=(r.usances.getD j default).fr !=(r.usances.getD k default).fr||(r.usances.getD j default).to !=(r.usances.getD k default).to
def Ay (r:Realm)(k:Nat):Int:=
 if(aG (r.usances.getD k default).fr r.cities.length&&aG (r.usances.getD k default).to r.cities.length&&wi (r.usances.getD k default).days 1 20000)=false then 1 else if fy k (mV r k) then 0 else 5
def xO (r:Realm):Int:=if 100<r.usances.length then 6 else ml r.usances.length (Ay r)
def ayi (r:Realm)(h:Small r):ah T 136 [aU r] (.int (xO r)):=by
 refine zyw 63 aBD ?_;have hu:=h.us;simp[YH,xO];by_cases h0:100<r.usances.length
 .have fE:(100:Int)<r.usances.length:=by omega
  have yG:¬r.usances.length<=100:=by omega
  simp[h0,fE,yG]
 have fE:¬(100:Int)<r.usances.length:=by omega
 simp[h0,fE];refine vi r.usances.length (Ay r) (λk=>[.int 0,.int k]) (λ_=>[]) ?_ (λk hk ho=>?_) (λk hk ho hb=>?_) (λhj=>?_)
 .simp
 .have hw:=bu hk (by omega);have ha:aG r.usances[k].fr r.cities.length=true/\aG r.usances[k].to r.cities.length=true/\wi r.usances[k].days 1 20000=true/\fy k (mV r k)=true:=by
   unfold Ay at ho;simp only[aK,bI hk,kN] at ho;cases e1:aG r.usances[k].fr r.cities.length<;>cases e2:aG r.usances[k].to r.cities.length<;>cases e3:wi r.usances[k].days 1 20000<;>cases e4:fy k (mV r k)<;>simp[e1,e2,e3,e4] at ho ⊢
  obtain⟨a1,a2,a3,a4⟩:=ha;simp[wi] at a3;have a5:¬r.usances[k].days<1:=by omega
  have a6:¬20000<r.usances[k].days:=by omega
  simp[VZ,Ij,hk];refine⟨_,gL _ _,?_⟩;simp[a1];refine⟨_,gL _ _,?_⟩;simp[a2,a5,a6];refine⟨by omega,gX k (mV r k) (λj=>[.int 0,.int j]) (λ_=>[]) ?_ (λj hj fF=>?_) (λj hj fF cB=>?_) (λF4=>?_)⟩
  .simp
  .have zi:=bu hj (by omega);have bf:j<r.usances.length:=by omega
   have hm:j<min k r.usances.length:=by omega
   simp[mV,bf,hk] at fF;simp[Oc,DG,hj,bf,hk,zi,hm];intro e e';rcases fF with h|h
   .exact absurd e h
   .exact absurd e' h
  .rw[a4] at cB;cases cB
  .simp[Oc,DG,hw];omega
 .simp[VZ,Ij,hk,hb];refine⟨_,gL _ _,?_⟩;unfold Ay at ho ⊢;simp only[aK,bI hk,kN] at ho ⊢;cases e1:aG r.usances[k].fr r.cities.length
  .simp
  simp;refine⟨_,gL _ _,?_⟩;cases e2:aG r.usances[k].to r.cities.length
  .simp
  cases e3:wi r.usances[k].days 1 20000
  .simp[wi] at e3;by_cases g:r.usances[k].days<1
   .simp[g]
   .simp[g,e3 (by omega)]
  have QV:=e3;simp[wi] at QV;have a5:¬r.usances[k].days<1:=by omega
  have a6:¬20000<r.usances[k].days:=by omega
  simp[e1,e2,e3] at ho;simp[a5,a6];refine⟨by omega,gX k (mV r k) (λj=>[.int 0,.int j]) (λ_=>[]) ?_ (λj hj fF=>?_) (λj hj fF cB=>?_) (λF4=>?_)⟩
  .simp
  .have zi:=bu hj (by omega);have bf:j<r.usances.length:=by omega
   have hm:j<min k r.usances.length:=by omega
   simp[mV,bf,hk] at fF;simp[Oc,DG,hj,bf,hk,zi,hm];intro e e';rcases fF with h|h
   .exact absurd e h
   .exact absurd e' h
  .have bf:j<r.usances.length:=by omega
   have hm:j<min k r.usances.length:=by omega
   simp[mV,bf,hk] at fF;simp[Oc,DG,hj,bf,hk,ho,hm]
   first|exact fF|simp[fF]
  .rw[F4] at ho;cases ho
 .simp[VZ,Ij,hj]
def axo (r:Realm)(h:Small r):ah T 67 [aU r] (.int (xO r)):=by
 refine zyw 101 aAv ?_;have hu:=h.us;have hc:=h.cities;simp[XM,xO];by_cases h0:100<r.usances.length
 .have fE:(100:Int)<r.usances.length:=by omega
  have yG:¬r.usances.length<=100:=by omega
  simp[h0,fE,yG]
 have fE:¬(100:Int)<r.usances.length:=by omega
 simp[h0,fE];refine vi r.usances.length (Ay r) (λk=>[.int 0,.int k]) (λ_=>[]) ?_ (λk hk ho=>?_) (λk hk ho hb=>?_) (λhj=>?_)
 .simp
 .have hw:=bu hk (by omega);have ha:aG r.usances[k].fr r.cities.length=true/\aG r.usances[k].to r.cities.length=true/\wi r.usances[k].days 1 20000=true/\fy k (mV r k)=true:=by
   unfold Ay at ho;simp only[aK,bI hk,kN] at ho;cases e1:aG r.usances[k].fr r.cities.length<;>cases e2:aG r.usances[k].to r.cities.length<;>cases e3:wi r.usances[k].days 1 20000<;>cases e4:fy k (mV r k)<;>simp[e1,e2,e3,e4] at ho ⊢
  obtain⟨a1,a2,a3,a4⟩:=ha;rw[zo] at a1 a2;simp[VD,HV,hk,tI _ (show r.cities.length<=4294967296 by omega)];refine⟨_,cJ _ _ _,?_⟩;simp[a1,tI _ (show r.cities.length<=4294967296 by omega)];refine⟨_,cJ _ _ _,?_⟩;simp[a2];refine⟨_,cJ _ _ _,?_⟩;simp[a3];refine gX k (mV r k) (λj=>[.int 0,.int j]) (λ_=>[]) ?_ (λj hj fF=>?_) (λj hj fF cB=>?_) (λF4=>?_)
  .simp
  .have zi:=bu hj (by omega);have bf:j<r.usances.length:=by omega
   simp[mV,bf,hk] at fF;simp[NY,DA,hj,bf,hk,zi];intro e e';rcases fF with h|h
   .exact absurd e h
   .exact absurd e' h
  .rw[a4] at cB;cases cB
  .simp[NY,DA,hw]
 .simp[VD,HV,hk,hb,tI _ (show r.cities.length<=4294967296 by omega)];refine⟨_,cJ _ _ _,?_⟩;unfold Ay at ho ⊢;simp only[aK,bI hk,kN,zo] at ho ⊢;cases e1:wi r.usances[k].fr 0 ((r.cities.length:Int)-1)
  .simp
  simp[tI _ (show r.cities.length<=4294967296 by omega)];refine⟨_,cJ _ _ _,?_⟩;cases e2:wi r.usances[k].to 0 ((r.cities.length:Int)-1)
  .simp
  simp;refine⟨_,cJ _ _ _,?_⟩;cases e3:wi r.usances[k].days 1 20000
  .simp
  simp[e1,e2,e3] at ho;simp;refine gX k (mV r k) (λj=>[.int 0,.int j]) (λ_=>[]) ?_ (λj hj fF=>?_) (λj hj fF cB=>?_) (λF4=>?_)
  .simp
  .have zi:=bu hj (by omega);have bf:j<r.usances.length:=by omega
   simp[mV,bf,hk] at fF;simp[NY,DA,hj,bf,hk,zi];intro e e';rcases fF with h|h
   .exact absurd e h
   .exact absurd e' h
  .have bf:j<r.usances.length:=by omega
   simp[mV,bf,hk] at fF;simp[NY,DA,hj,bf,hk,ho]
   first|exact fF|simp[fF]
  .rw[F4] at ho;cases ho
 .simp[VD,HV,hj]
def Ag (r:Realm)(k:Nat):Bool:=aG (r.rates.getD k default).fr r.currencies.length&&aG (r.rates.getD k default).to r.currencies.length&&((r.rates.getD k default).fr !=(r.rates.getD k default).to)&&
 wi (r.rates.getD k default).num 1 1073741824&&wi (r.rates.getD k default).den 1 1073741824&&wi (r.rates.getD k default).since 0 100000
def wh (r:Realm)(k:Nat):Bool:=aG (r.halts.getD k default).order r.orders.length&&wi (r.halts.getD k default).fr 0 (r.halts.getD k default).to&&decide ((r.halts.getD k default).to<=100000)
def qf (r:Realm):Int:=if 100<r.rates.length then 6 else if fy r.rates.length (Ag r)=false then 1 else if 20<r.halts.length then 6 else if fy r.halts.length (wh r) then 0 else 1
def Mp {n:Int}(h:bl n)(m:Int)(hm:0<=m/\m<=4294967296):aG (i64.wrap (n-1)) m=wi n 1 m:=by
 unfold bl at h;by_cases e:n=-9223372036854775808
 .subst e;have:i64.wrap (-9223372036854775808-1)=9223372036854775807:=by decide
  rw[this,rU];simp[aG,wi];omega
 .rw[aW (by omega),rU];simp[aG,wi];omega
def adQ (n:Int):aG n 100001=wi n 0 100000:=by rw[rU];simp[aG,wi];omega
def ayh (r:Realm)(h:Small r):ah T 137 [aU r] (.int (qf r)):=by
 refine zyw 64 aBB ?_;have hu:=h.rates;have hh:=h.halts;simp[YE,qf];by_cases h0:100<r.rates.length
 .have fE:(100:Int)<r.rates.length:=by omega
  have yG:¬r.rates.length<=100:=by omega
  simp[h0,fE,yG]
 have fE:¬(100:Int)<r.rates.length:=by omega
 simp[h0,fE];have key:∀k (hk:k<r.rates.length),∀{O:Env} {Q:Out->Prop},True:=λ_ _ _ _=>trivial;refine gX r.rates.length (Ag r) (λk=>[.int 0,.int k]) (λ_=>[]) ?_ (λk hk ho=>?_) (λk hk ho hb=>?_) (λhj=>?_)
 .simp
 .have hw:=bu hk (by omega);have hI:=h.rate _ (bW hk);simp[Ag,hk] at ho;obtain⟨⟨⟨⟨⟨a1,a2⟩,a3⟩,a4⟩,a5⟩,a6⟩:=ho;simp[VX,Ih,hk];refine⟨_,gL _ _,?_⟩;simp[a1];refine⟨_,gL _ _,?_⟩;simp[a2,a3];refine⟨_,gL _ _,?_⟩;simp[Mp hI.1,a4];refine⟨_,gL _ _,?_⟩;simp[Mp hI.2,a5];refine⟨_,gL _ _,?_⟩;simp[adQ,a6,hw]
 .have hI:=h.rate _ (bW hk);rw[hb];simp[Ag,hk] at ho;simp[VX,Ih,hk];refine⟨_,gL _ _,?_⟩;cases e1:aG r.rates[k].fr r.currencies.length
  .simp
  simp;refine⟨_,gL _ _,?_⟩;cases e2:aG r.rates[k].to r.currencies.length
  .simp
  by_cases e3:r.rates[k].fr=r.rates[k].to
  .simp[e3]
  simp[e3];refine⟨_,gL _ _,?_⟩;rw[Mp hI.1 _ (by omega)];cases e4:wi r.rates[k].num 1 1073741824
  .simp
  simp;refine⟨_,gL _ _,?_⟩;rw[Mp hI.2 _ (by omega)];cases e5:wi r.rates[k].den 1 1073741824
  .simp
  simp;refine⟨_,gL _ _,?_⟩;rw[adQ];simp[ho e1 e2 e3 e4 e5]
 .rw[hj];simp[VX,Ih];by_cases h1:20<r.halts.length
  .have cA:(20:Int)<r.halts.length:=by omega
   have Rj:¬r.halts.length<=20:=by omega
   simp[h1,cA,Rj]
  have cA:¬(20:Int)<r.halts.length:=by omega
  simp[h1,cA];refine gX r.halts.length (wh r) (λk=>[.int 0,.int k]) (λ_=>[]) ?_ (λk hk ho=>?_) (λk hk ho hb=>?_) (λhj=>?_)
  .simp
  .have hw:=bu hk (by omega);simp[wh,wi,hk] at ho;obtain⟨⟨a1,a2⟩,a3⟩:=ho;have b1:¬r.halts[k].fr<0:=by omega
   have b2:¬r.halts[k].to<r.halts[k].fr:=by omega
   have b3:¬100000<r.halts[k].to:=by omega
   simp[VY,Ii,hk];refine⟨_,gL _ _,?_⟩;simp[a1,b1,b2,b3,hw]
  .rw[hb];simp[wh,wi,hk] at ho;simp[VY,Ii,hk];refine⟨_,gL _ _,?_⟩;cases e1:aG r.halts[k].order r.orders.length
   .simp
   have:=ho e1;by_cases b1:r.halts[k].fr<0
   .simp[b1]
   by_cases b2:r.halts[k].to<r.halts[k].fr
   .simp[b1,b2]
   have b3:100000<r.halts[k].to:=this (by omega) (by omega);simp[b1,b2,b3]
  .rw[hj];simp[VY,Ii]
def axn (r:Realm)(h:Small r):ah T 68 [aU r] (.int (qf r)):=by
 refine zyw 102 aAu ?_;have hu:=h.rates;have hh:=h.halts;have hc:=tI r.currencies.length (by have:=h.cur;omega);have Me:=tI r.orders.length (by have:=h.orders;omega);simp[XL,qf];by_cases h0:100<r.rates.length
 .have fE:(100:Int)<r.rates.length:=by omega
  have yG:¬r.rates.length<=100:=by omega
  simp[h0,fE,yG]
 have fE:¬(100:Int)<r.rates.length:=by omega
 simp[h0,fE];refine gX r.rates.length (Ag r) (λk=>[.int 0,.int k]) (λ_=>[]) ?_ (λk hk ho=>?_) (λk hk ho hb=>?_) (λhj=>?_)
 .simp
 .have hw:=bu hk (by omega);simp[Ag,hk,zo] at ho;obtain⟨⟨⟨⟨⟨a1,a2⟩,a3⟩,a4⟩,a5⟩,a6⟩:=ho;simp[VB,HT,hk,hc];refine⟨_,cJ _ _ _,?_⟩;simp[a1,hc];refine⟨_,cJ _ _ _,?_⟩;simp[a2,a3];refine⟨_,cJ _ _ _,?_⟩;simp[a4];refine⟨_,cJ _ _ _,?_⟩;simp[a5];refine⟨_,cJ _ _ _,?_⟩;simp[a6,hw]
 .rw[hb];simp[Ag,hk,zo] at ho;simp[VB,HT,hk,hc];refine⟨_,cJ _ _ _,?_⟩;cases e1:wi r.rates[k].fr 0 ((r.currencies.length:Int)-1)
  .simp
  simp[hc];refine⟨_,cJ _ _ _,?_⟩;cases e2:wi r.rates[k].to 0 ((r.currencies.length:Int)-1)
  .simp
  by_cases e3:r.rates[k].fr=r.rates[k].to
  .simp[e3]
  simp[e3];refine⟨_,cJ _ _ _,?_⟩;cases e4:wi r.rates[k].num 1 1073741824
  .simp
  simp;refine⟨_,cJ _ _ _,?_⟩;cases e5:wi r.rates[k].den 1 1073741824
  .simp
  simp;refine⟨_,cJ _ _ _,?_⟩;simp[ho e1 e2 e3 e4 e5]
 .rw[hj];simp[VB,HT];by_cases h1:20<r.halts.length
  .have cA:(20:Int)<r.halts.length:=by omega
   have Rj:¬r.halts.length<=20:=by omega
   simp[h1,cA,Rj]
  have cA:¬(20:Int)<r.halts.length:=by omega
  simp[h1,cA];refine gX r.halts.length (wh r) (λk=>[.int 0,.int k]) (λ_=>[]) ?_ (λk hk ho=>?_) (λk hk ho hb=>?_) (λhj=>?_)
  .simp
  .have hw:=bu hk (by omega);simp[wh,hk,zo] at ho;obtain⟨⟨a1,a2⟩,a3⟩:=ho;have b3:¬100000<r.halts[k].to:=by omega
   simp[VC,HU,hk,Me];refine⟨_,cJ _ _ _,?_⟩;simp[a1];refine⟨_,cJ _ _ _,?_⟩;simp[a2,b3,hw]
  .rw[hb];simp[wh,hk,zo] at ho;simp[VC,HU,hk,Me];refine⟨_,cJ _ _ _,?_⟩;cases e1:wi r.halts[k].order 0 ((r.orders.length:Int)-1)
   .simp
   simp;refine⟨_,cJ _ _ _,?_⟩;cases e2:wi r.halts[k].fr 0 r.halts[k].to
   .simp
   simp[ho e1 e2]
  .rw[hj];simp[VC,HU]
def fW:List Int->Int
 |[]=>0
 |x::l=>if x=0 then fW l else x
def Ov:∀{l:List Int},fW l=0↔∀x,x∈l->x=0
 |[]=>by simp[fW]
 |x::l=>by
  simp only[fW,cU,forall_eq_or_imp];by_cases h:x=0
  .simp[h,Ov (l:=l)]
  .simp[h]
def qQ (r:Realm)(i:Nat):Bool:=aG (r.firms.getD i default).city r.cities.length&&aG (r.firms.getD i default).group r.groups.length
def nS (r:Realm)(i:Nat):Bool:=m9 r (r.cities.getD i default)
def oD (r:Realm)(i:Nat):Bool:=pU (r.orders.getD i default)
def yF (r:Realm)(i:Nat):Bool:=aG (r.groups.getD i default).grade 10
def wc (r:Realm):Int:=if 20<r.groups.length then 6 else if fy r.groups.length (yF r) then 0 else 1
def fC (r:Realm):Int:=fW [fg r.currencies 8 (λ_=>true),fg (fK r) 40 (nS r),wc r,fg (gn r) 200 (qQ r),fg (fL r) 20 (oD r),xO r,qf r]
def am1 (i:Int):ah T 130 [.int i] (.bool true):=by
 refine zyw 56 aBo ?_;simp[Ys]
def am2 (r:Realm)(h:Small r)(i:Nat)(hi:i<r.cities.length):ah T 131 [.int i,.ref (aU r)] (.bool (nS r i)):=by
 refine zyw 57 aBp ?_;obtain⟨h1,h2,h3,h4⟩:=h.city _ (bW hi);simp[Yt,hi,nS];exact ayc r r.cities[i] (by omega) (by omega) (by omega)
def am3 (r:Realm)(i:Nat)(hi:i<r.firms.length):ah T 133 [.int i,.ref (aU r)] (.bool (qQ r i)):=by
 refine zyw 60 aBq ?_;simp[Yu,hi,qQ];refine⟨_,gL _ _,?_⟩;simp[hi];cases e1:aG r.firms[i].city r.cities.length<;>simp;exact gL _ _
def am4 (r:Realm)(h:Small r)(i:Nat)(hi:i<r.orders.length):ah T 134 [.int i,.ref (aU r)] (.bool (oD r i)):=by
 refine zyw 61 aBr ?_;obtain⟨h1,h2⟩:=h.order _ (bW hi);simp[Yv,hi,oD];exact ayg r.orders[i] (by omega) (by omega)
def Wi (r:Realm)(h:Small r):ah T 84 [aU r] (.int (fC r)):=by
 refine zyw 49 aBs ?_;have g1:=h.cur;have g2:=h.cities;have g3:=h.firms;have g4:=h.orders;have g5:=h.groups;simp[Yr];refine⟨_,ayf r (by omega) (by omega) (by omega),?_⟩;simp;refine⟨_,Oj r.currencies 8 130 [] (λ_=>true) (λi _=>am1 _) (by omega),?_⟩;unfold fC;generalize e1:fg r.currencies 8 (λ_=>true)=x1;by_cases z1:x1=0
 case neg=>simp[z1,fW]
 simp[z1,fW];refine⟨_,Oj (fK r) 40 131 [.ref (aU r)] (nS r) (λi hi=>am2 r h i (by simpa [fK] using hi)) (by simp[fK];omega),?_⟩;generalize e2:fg (fK r) 40 (nS r)=x2;by_cases z2:x2=0
 case neg=>simp[z2]
 simp[z2];by_cases z3:20<r.groups.length
 .have ZO:(20:Int)<r.groups.length:=by omega
  simp[ZO,wc,z3]
 have ZO:¬(20:Int)<r.groups.length:=by omega
 simp[ZO,wc,z3];refine gX r.groups.length (yF r) (λk=>[.int 0,.int k]) (λ_=>[]) ?_ (λk hk ho=>?_) (λk hk ho hb=>?_) (λhj=>?_)
 .simp
 .have hw:=bu hk (by omega);simp[yF,hk] at ho;simp[VS,Ib,hk];refine⟨_,gL _ _,?_⟩;simp[ho,hw]
 .simp[yF,hk] at ho;rw[hb];simp[VS,Ib,hk];refine⟨_,gL _ _,?_⟩;simp[ho]
 .rw[hj];simp[VS,Ib];refine⟨_,Oj (gn r) 200 133 [.ref (aU r)] (qQ r) (λi hi=>am3 r i (by simpa [gn] using hi)) (by simp[gn];omega),?_⟩;generalize e4:fg (gn r) 200 (qQ r)=x4;by_cases z4:x4=0
  case neg=>simp[z4]
  simp[z4];refine⟨_,Oj (fL r) 20 134 [.ref (aU r)] (oD r) (λi hi=>am4 r h i (by simpa [fL] using hi)) (by simp[fL];omega),?_⟩;generalize e5:fg (fL r) 20 (oD r)=x5;by_cases z5:x5=0
  case neg=>simp[z5]
  simp[z5];refine⟨_,ayi r h,?_⟩;generalize e6:xO r=x6;by_cases z6:x6=0
  case neg=>simp[z6]
  simp[z6];have e7:(if qf r=0 then 0 else qf r)=qf r:=by split<;>simp_all
  rw[e7];exact ayh r h
def aoW (l:List ByteArray)(k:Nat):kV l (λ_=>true) k=iS l k:=by
 unfold kV;by_cases h:iS l k=0<;>simp[h]
def B1 {l:List ByteArray}{g:Nat->Bool}{k:Nat}(h:kV l g k=0):iS l k=0/\g k=true:=by
 unfold kV at h;by_cases h1:iS l k=0
 .simp[h1] at h;exact⟨h1,h⟩
 .simp[h1] at h
def Rb {l:List ByteArray}{g:Nat->Bool}{k:Nat}(h:kV l g k≠0):(iS l k≠0/\kV l g k=iS l k)\/(iS l k=0/\g k=false/\kV l g k=1):=by
 unfold kV at h ⊢;by_cases h1:iS l k=0
 .simp[h1] at h ⊢;simp[h]
 .simp[h1]
def axk (r:Realm)(h:Small r):ah T 64 [aU r] (.int (fW [fg r.currencies 8 (λ_=>true),fg (fK r) 40 (nS r)])):=by
 refine zyw 90 aAq ?_;have g1:=h.cur;have g2:=h.cities;have g4:=h.orders;simp[XH];unfold fg;by_cases z1:(8:Int)<r.currencies.length
 .simp[z1,fW]
 simp[z1,fW];refine vi r.currencies.length (kV r.currencies (λ_=>true)) (λk=>[.int 0,.int k]) (λ_=>[]) ?_ (λk hk ho=>?_) (λk hk ho hb=>?_) (λhj=>?_)
 .simp
 .have hw:=bu hk (by omega);simp[Vw,HO,hk];refine⟨_,Hn _ k hk (by omega),?_⟩;simp[(B1 ho).1,hw]
 .rw[hb];simp[Vw,HO,hk,ho];rw[aoW];exact Hn _ k hk (by omega)
 .rw[hj];simp[Vw,HO];have hlen:(fK r).length=r.cities.length:=by simp[fK]
  rw[hlen];by_cases z2:(40:Int)<r.cities.length
  .simp[z2]
  simp[z2];have key:∀k (hk:k<r.cities.length),((fK r).take k).length=k/\D.list (List.take k (List.map str (fK r))++[str r.cities[k].name])=strs ((fK r).take (k+1))/\
     ah T 108 [strs ((fK r).take (k+1)),.int k] (.int (iS (fK r) k))/\ah T 109 [aU r,gy r.cities[k]] (.bool (nS r k)):=by
   intro k hk;have br:k<(fK r).length:=by omega
   have hg:(fK r)[k]=r.cities[k].name:=by simp[fK]
   have hs:(fK r).take (k+1)=(fK r).take k++[(fK r)[k]]:=lG br;have hn:=Hn ((fK r).take (k+1)) k (by rw[eN];omega) (by rw[eN];omega);rw[TA _ _ _ (by omega)] at hn;obtain⟨c1,c2,c3,c4⟩:=h.city _ (bW hk);have hc:=axi r r.cities[k] (by omega) (by omega) (by omega) (by omega) (by omega) c4;rw[ana] at hc;exact⟨by rw[eN];omega,by rw[hs,hg];simp[strs],hn,by simpa [nS,hk] using hc⟩
  refine vi r.cities.length (kV (fK r) (nS r)) (λk=>[.int 0,.none,.int k]) (λk=>[strs ((fK r).take k)]) ?_ (λk hk ho=>?_) (λk hk ho hb=>?_) (λhj=>?_)
  .simp[strs]
  .have hw:=bu hk (by omega);obtain⟨hl,fG,hn,hc⟩:=key k hk;obtain⟨o1,o2⟩:=B1 ho;rw[o1] at hn;rw[o2] at hc;simp[Vx,HP,hk,hl,fG,ay8];refine⟨by omega,_,hn,?_⟩;simp[hk];refine⟨_,hc,?_⟩;simp[hw]
  .rw[hb];obtain⟨hl,fG,hn,hc⟩:=key k hk;simp[Vx,HP,hk,hl,fG,ho];refine⟨by omega,_,hn,?_⟩;rcases Rb ho with⟨o1,o2⟩|⟨o1,o2,o3⟩
   .simp[o1,o2]
   .rw[o2] at hc;simp[o1,o3,hk];refine⟨_,hc,?_⟩;simp
  .rw[hj];simp[Vx,HP]
def axl (r:Realm)(h:Small r):ah T 65 [aU r] (.int (fW [wc r,fg (gn r) 200 (qQ r)])):=by
 refine zyw 98 aAr ?_;have g1:=h.groups;have g2:=h.firms;have g3:=h.cities;have w3:=tI r.cities.length (by omega);have w1:=tI r.groups.length (by omega);simp[XI];by_cases z1:20<r.groups.length
 .have ZN:(20:Int)<r.groups.length:=by omega
  simp[ZN,wc,z1,fW]
 have ZN:¬(20:Int)<r.groups.length:=by omega
 simp[ZN,wc,z1,fW];refine gX r.groups.length (yF r) (λk=>[.int 0,.int k]) (λ_=>[]) ?_ (λk hk ho=>?_) (λk hk ho hb=>?_) (λhj=>?_)
 .simp
 .have hw:=bu hk (by omega);simp[yF,hk] at ho;have e:wi r.groups[k].grade 0 9=aG r.groups[k].grade 10:=by rw[rU];simp[wi,aG];omega
  simp[Vy,HQ,hk];refine⟨_,cJ _ _ _,?_⟩;simp[e,ho,hw]
 .simp[yF,hk] at ho;have e:wi r.groups[k].grade 0 9=aG r.groups[k].grade 10:=by rw[rU];simp[wi,aG];omega
  rw[hb];simp[Vy,HQ,hk];refine⟨_,cJ _ _ _,?_⟩;simp[e,ho]
 .rw[hj];simp[Vy,HQ];unfold fg;have hlen:(gn r).length=r.firms.length:=by simp[gn]
  rw[hlen];by_cases z2:(200:Int)<r.firms.length
  .simp[z2]
  simp[z2];have key:∀k (hk:k<r.firms.length),((gn r).take k).length=k/\D.list (List.take k (List.map str (gn r))++[str r.firms[k].name])=strs ((gn r).take (k+1))/\
     ah T 108 [strs ((gn r).take (k+1)),.int k] (.int (iS (gn r) k))/\qQ r k=(wi r.firms[k].city 0 ((r.cities.length:Int)-1)&&wi r.firms[k].group 0 ((r.groups.length:Int)-1)):=by
   intro k hk;have br:k<(gn r).length:=by omega
   have hg:(gn r)[k]=r.firms[k].name:=by simp[gn]
   have hs:(gn r).take (k+1)=(gn r).take k++[(gn r)[k]]:=lG br;have hn:=Hn ((gn r).take (k+1)) k (by rw[eN];omega) (by rw[eN];omega);rw[TA _ _ _ (by omega)] at hn;exact⟨by rw[eN];omega,by rw[hs,hg];simp[strs],hn,by simp[qQ,hk,zo]⟩
  refine vi r.firms.length (kV (gn r) (qQ r)) (λk=>[.int 0,.none,.int k]) (λk=>[strs ((gn r).take k)]) ?_ (λk hk ho=>?_) (λk hk ho hb=>?_) (λhj=>?_)
  .simp[strs]
  .have hw:=bu hk (by omega);obtain⟨hl,fG,hn,hc⟩:=key k hk;obtain⟨o1,o2⟩:=B1 ho;rw[o1] at hn;rw[o2] at hc;have nj:=Bool.and_eq_true_iff.1 hc.symm;simp[Vz,HR,hk,hl,fG];refine⟨by omega,_,hn,?_⟩;simp[hk,w3];refine⟨_,cJ _ _ _,?_⟩;simp[nj.1,hk,w1];refine⟨_,cJ _ _ _,?_⟩;simp[nj.2,hw]
  .rw[hb];obtain⟨hl,fG,hn,hc⟩:=key k hk;simp[Vz,HR,hk,hl,fG,ho];refine⟨by omega,_,hn,?_⟩;rcases Rb ho with⟨o1,o2⟩|⟨o1,o2,o3⟩
   .simp[o1,o2]
   .rw[o2] at hc;simp[o1,o3,hk,w3];refine⟨_,cJ _ _ _,?_⟩;cases e1:wi r.firms[k].city 0 ((r.cities.length:Int)-1)
    .simp
    rw[e1,AE] at hc;simp[hk,w1];refine⟨_,cJ _ _ _,?_⟩;simp[<-hc]
  .rw[hj];simp[Vz,HR]
def axm (r:Realm)(h:Small r):ah T 66 [aU r] (.int (fg (fL r) 20 (oD r))):=by
 refine zyw 99 aAt ?_;have g2:=h.orders;simp[XK];unfold fg;have hlen:(fL r).length=r.orders.length:=by simp[fL]
 rw[hlen];by_cases z2:(20:Int)<r.orders.length
 .simp[z2]
 simp[z2];have key:∀k (hk:k<r.orders.length),((fL r).take k).length=k/\D.list (List.take k (List.map str (fL r))++[str r.orders[k].name])=strs ((fL r).take (k+1))/\
  ah T 108 [strs ((fL r).take (k+1)),.int k] (.int (iS (fL r) k))/\ah T 110 [gz r.orders[k]] (.bool (oD r k)):=by
  intro k hk;have br:k<(fL r).length:=by omega
  have hg:(fL r)[k]=r.orders[k].name:=by simp[fL]
  have hs:(fL r).take (k+1)=(fL r).take k++[(fL r)[k]]:=lG br;have hn:=Hn ((fL r).take (k+1)) k (by rw[eN];omega) (by rw[eN];omega);rw[TA _ _ _ (by omega)] at hn;obtain⟨c1,c2⟩:=h.order _ (bW hk);exact⟨by rw[eN];omega,by rw[hs,hg];simp[strs],hn,by simpa [oD,hk] using axj r.orders[k] (by omega) (by omega)⟩
 refine vi r.orders.length (kV (fL r) (oD r)) (λk=>[.int 0,.none,.int k]) (λk=>[strs ((fL r).take k)]) ?_ (λk hk ho=>?_) (λk hk ho hb=>?_) (λhj=>?_)
 .simp[strs]
 .have hw:=bu hk (by omega);obtain⟨hl,fG,hn,hc⟩:=key k hk;obtain⟨o1,o2⟩:=B1 ho;rw[o1] at hn;rw[o2] at hc;simp[VA,HS,hk,hl,fG];refine⟨by omega,_,hn,?_⟩;simp[hk];refine⟨_,hc,?_⟩;simp[hw]
 .rw[hb];obtain⟨hl,fG,hn,hc⟩:=key k hk;simp[VA,HS,hk,hl,fG,ho];refine⟨by omega,_,hn,?_⟩;rcases Rb ho with⟨o1,o2⟩|⟨o1,o2,o3⟩
  .simp[o1,o2]
  .rw[o2] at hc;simp[o1,o3,hk];refine⟨_,hc,?_⟩;simp
 .rw[hj];simp[VA,HS]
def ahL (r:Realm)(h:Small r):ah T 32 [aU r] (.int (fC r)):=by
 refine zyw 89 aAf ?_
 have e:fC r=fW [fW [fg r.currencies 8 (λ_=>true),fg (fK r) 40 (nS r)],fW [wc r,fg (gn r) 200 (qQ r)],fg (fL r) 20 (oD r),xO r,qf r]:=by
  unfold fC;simp only[fW];split<;>(try split)<;>(try split)<;>(try split)<;>simp_all
 rw[e];simp[Xx];refine⟨_,axk r h,?_⟩;have h1:=axl r h;generalize fW [fg r.currencies 8 (λ_=>true),fg (fK r) 40 (nS r)]=x1 at*;generalize fW [wc r,fg (gn r) 200 (qQ r)]=x2 at*;have h2:=axm r h;generalize fg (fL r) 20 (oD r)=x3 at*;have h3:=axo r h;generalize xO r=x4 at*;have h4:=axn r h;generalize qf r=x5 at*;by_cases z1:x1=0
 case neg=>simp[z1,fW]
 simp[z1,fW];refine⟨_,h1,?_⟩;by_cases z2:x2=0
 case neg=>simp[z2]
 simp[z2];refine⟨_,h2,?_⟩;by_cases z3:x3=0
 case neg=>simp[z3]
 simp[z3];refine⟨_,h3,?_⟩;by_cases z4:x4=0
 case neg=>simp[z4]
 simp[z4];have e7:(if x5=0 then 0 else x5)=x5:=by split<;>simp_all
 rw[e7];exact h4
def gM:Nat->Tm->Int->Int
 |0,_,_=>-1
 |L+1,t,n=>t.args.foldl (λm a=>if 0<=m then gM L a m else m) (n-1)
def size_le:∀(L:Nat) (t:Tm) (n:Int),0<=n->-1<=gM L t n/\gM L t n<=n
 |0,t,n,h=>by simp[gM];omega
 |L+1,t,n,h=>by
  have key:∀(l:List Tm) (m:Int),-1<=m->m<=n->-1<=l.foldl (λm a=>if 0<=m then gM L a m else m) m/\l.foldl (λm a=>if 0<=m then gM L a m else m) m<=n:=by
   intro l
   induction l with
   |nil=>intro m h1 h2;exact⟨h1,h2⟩
   |cons a l ih=>
    intro m h1 h2;simp only[Jc];split
    .rename_i hm;have:=size_le L a m hm;exact ih _ this.1 (by omega)
    .exact ih _ h1 h2
  exact key _ _ (by omega) (by omega)
def OB (L:Nat):∀(l:List Tm) (m:Int),m<0->l.foldl (λm a=>if 0<=m then gM L a m else m) m=m
 |[],m,h=>rfl
 |a::l,m,h=>by simp only[Jc];rw[if_neg (by omega)];exact OB L l m h
def aqa {α β:Type}(f:β->α->β)(b:β){l:List α}{k:Nat}(h:k<l.length):(l.take (k+1)).foldl f b=f ((l.take k).foldl f b) l[k]:=by
 rw[lG h,Ea];rfl
def ap9 {α β:Type}(f:β->α->β)(b:β)(l:List α)(k:Nat):l.foldl f b=(l.drop k).foldl f ((l.take k).foldl f b):=by
 rw[<-Ea,Pn]
def _root_.Cx.Tm.OK.len {t:Tm}(h:t.OK):t.args.length<=9223372036854775807:=by cases h with|mk o n xs h1 h2 h3 h4=>exact h3
def _root_.Cx.Tm.OK.arg {t:Tm}(h:t.OK){a:Tm}(ha:a∈t.args):a.OK:=by cases h with|mk o n xs h1 h2 h3 h4=>exact h4 a ha
def U7:∀(L:Nat) (t:Tm) (n:Int),t.OK->0<=n->n<=1000->L<=1000->ah T 146 [cQ t,.int n,.int L] (.int (gM L t n))
 |0,t,n,ht,h0,h1,hL=>by
  refine .of_tree rfl aaE ajr ?_;simp[OX,gM]
 |L+1,t,n,ht,h0,h1,hL=>by
  refine .of_tree rfl aaE ajr ?_;have oq:i64.wrap (n-1)=n-1:=aW (by omega);have hl:=ht.len;have mA:¬((L:Int)+1<1):=by omega
  simp[OX,oq,mA]
  let g:Nat->Int:=λk=>(t.args.take k).foldl (λm a=>if 0<=m then gM L a m else m) (n-1)
  have gb:∀k,-1<=g k/\g k<=1000:=by
   intro k;have:g k=gM (L+1) (.mk 0 0 (t.args.take k)) n:=rfl;have:=size_le (L+1) (.mk 0 0 (t.args.take k)) n h0;omega
  refine .scan t.args.length (λk=>0<=g k) (λk=>[.int (g k),.int k]) (λ_=>[]) ?_ (λk hk hj ho=>?_) (λk hk hj ho=>?_) (λhj=>?_)
  .simp[g,oq]
  .have hw:i64.wrap ((k:Int)+1)=(k:Int)+1:=aW (by omega);have zj:i64.wrap (L:Int)=(L:Int):=aW (by omega);have hg:g (k+1)=gM L t.args[k] (g k):=by
    show(t.args.take (k+1)).foldl _ _=_;rw[aqa _ _ hk];show(if 0<=g k then _ else _)=_;rw[if_pos ho]
   rw[hg];have dS:=U7 L t.args[k] (g k) (ht.arg (bW hk)) ho (gb k).2 (by omega);generalize g k=m at*;simp[VK,H4,hk,ho,zj];refine⟨_,dS,?_⟩;simp[hw]
  .have hf:gM (L+1) t n=g k:=by
    show t.args.foldl _ _=_;rw[ap9 _ _ _ k];exact OB L _ _ (by show g k<0;omega)
   rw[hf];generalize g k=m at*;simp[VK,H4,hk,ho]
  .have hf:gM (L+1) t n=g t.args.length:=by
    show t.args.foldl _ _=(t.args.take t.args.length).foldl _ _;rw[Ec]
   rw[hf];generalize g t.args.length=m at*;simp[VK,H4]
def ah0 (t:Tm)(ht:t.OK):ah T 107 [cQ t] (.bool (decide (0<=gM 20 t 100))):=by
 refine zyw 87 aAN ?_;simp[XZ];refine⟨_,U7 20 t 100 ht (by omega) (by omega) (by omega),?_⟩;simp
def sw (o:Order):Bool:=(decide (o.rules.length<=60)&&decide (o.choices.length<=60))&&fy o.rules.length (λk=>decide (0<=gM 20 (o.rules.getD k default).term 100))
def ah5 (o:Order)(ho:o.OK):ah T 63 [gz o] (.bool (sw o)):=by
 refine zyw 86 aA3 ?_;simp[X8];by_cases h1:(o.rules.length:Int)<=60
 case neg=>
  have cA:(60:Int)<o.rules.length:=by omega
  have hf:sw o=false:=by
   have:decide (o.rules.length<=60)=false:=decide_eq_false (by omega);simp only[sw,this,tK]
  simp[cA,hf]
 by_cases h2:(o.choices.length:Int)<=60
 case neg=>
  have cA:(60:Int)<o.choices.length:=by omega
  have hf:sw o=false:=by
   have:decide (o.choices.length<=60)=false:=decide_eq_false (by omega);simp only[sw,this,tK,AD]
  simp[cA,hf]
 have cA:¬(60:Int)<o.rules.length:=by omega
 have gi:¬(60:Int)<o.choices.length:=by omega
 have hf:sw o=fy o.rules.length (λk=>decide (0<=gM 20 (o.rules.getD k default).term 100)):=by
  have e1:decide (o.rules.length<=60)=true:=decide_eq_true (by omega);have e2:decide (o.choices.length<=60)=true:=decide_eq_true (by omega);simp only[sw,e1,e2,AE]
 rw[hf];simp[cA,gi];have hO:=ho.2.2;refine gX o.rules.length (λk=>decide (0<=gM 20 (o.rules.getD k default).term 100)) (λk=>[.bool false,.int k]) (λ_=>[]) ?_ (λk hk ho=>?_) (λk hk ho hb=>?_) (λhj=>?_)
 .simp
 .have hw:=bu hk (by omega);simp[hk] at ho;simp[VM,H6,hk];refine⟨_,ah0 _ (hO _ (bW hk)).2,?_⟩;simp[ho,hw]
 .simp only[aK] at hb;rw[hb];simp[hk] at ho;simp[VM,H6,hk];refine⟨_,ah0 _ (hO _ (bW hk)).2,?_⟩;simp[ho]
 .simp only[aK] at hj;rw[hj];simp[VM,H6]
def Fs (f:File):Bool:=decide ((f.signs.length:Int)<=50)&&decide ((f.alters.length:Int)<=10)&&decide ((f.acts.length:Int)<=110)&&decide ((f.facts.length:Int)<=220)
def axu (f:File):ah T 62 [dK f] (.bool (Fs f)):=by
 refine zyw 85 aAD ?_;simp[XT,Fs];by_cases h1:(f.signs.length:Int)<=50<;>by_cases h2:(f.alters.length:Int)<=10<;>by_cases h3:(f.acts.length:Int)<=110<;>by_cases h4:(f.facts.length:Int)<=220<;>
  simp[h1,h2,h3,h4]
end Rm
