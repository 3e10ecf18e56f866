/-
  Shared texts of this claim.
-/
import Derived.Test.YtopjnikcppafdaaGreatDoorMAI
import Derived.Test.YtopjnikcppafdaaGreatDoorMAJ
set_option linter.defProp false
set_option linter.unusedSimpArgs false
set_option linter.unusedVariables false
namespace Rm
open Go Cx
abbrev str (b:ByteArray):D:=.v (.string b)
def strs (l:List ByteArray):D:=.list (l.map str)
@[simp] def axw (l:List ByteArray):(strs l).l=l.map str:=zyz
def str_inv {d:D}(h:DTy .str d):∃b,d=str b:=by
 cases h with
 |str b=>exact⟨b,rfl⟩
 |other t d h=>exact h.elim
def axv {d:D}(h:DTy (.slice .str) d):∃l:List ByteArray,d=strs l/\l.length<=maxLen:=by
 obtain⟨xs,rfl,hm,hx⟩:=h.slice_inv;obtain⟨l,rfl,hl⟩:=kE (enc:=str) (P:=λ_=>True) λx hh=>(str_inv (hx x hh)).imp λb hb=>⟨hb,trivial⟩
 exact⟨l,rfl,by simpa using hm⟩
@[simp] def aCZ (t:Tm):(dP t).cells=[.int t.op,.int t.n,.list (t.args.map dP)]:=by rw[E1];rfl
@[simp] def aC0 (t:Tm):D.agg [.int t.op,.int t.n,.list (t.args.map dP)]=dP t:=(E1 t).symm
@[simp] def aCW (t:Tm):(dP t).c 0=.int t.op:=by rw[E1];rfl
@[simp] def aCX (t:Tm):(dP t).c 1=.int t.n:=by rw[E1];rfl
@[simp] def aCY (t:Tm):(dP t).c 2=.list (t.args.map dP):=by rw[E1];rfl
structure City where
 name:ByteArray
 order:Int
 currency:Int
 rest:List Int
 feasts:List Int
 shut:List Int
 deriving Inhabited
def gT (x:City):D:=.agg [str x.name,.int x.order,.int x.currency,ints x.rest,ints x.feasts,ints x.shut]
@[simp] def aBP (x:City):(gT x).cells=[str x.name,.int x.order,.int x.currency,ints x.rest,ints x.feasts,ints x.shut]:=zyz
@[simp] def aGO (x:City):D.agg [str x.name,.int x.order,.int x.currency,ints x.rest,ints x.feasts,ints x.shut]=gT x:=zyz
@[simp] def aDI (x:City):kl 6 (gT x)=gT x:=zyz
@[simp] def aBJ (x:City):(gT x).c 0=str x.name:=zyz
@[simp] def aBK (x:City):(gT x).c 1=.int x.order:=zyz
@[simp] def aBL (x:City):(gT x).c 2=.int x.currency:=zyz
@[simp] def aBM (x:City):(gT x).c 3=ints x.rest:=zyz
@[simp] def aBN (x:City):(gT x).c 4=ints x.feasts:=zyz
@[simp] def aBO (x:City):(gT x).c 5=ints x.shut:=zyz
def pP (l:List City):D:=.list (l.map gT)
@[simp] def aD9 (l:List City):(pP l).l=l.map gT:=zyz
abbrev ZJ:Ty:=.agg [.str,.int .i64,.int .i64,.slice (.int .i64),.slice (.int .i64),.slice (.int .i64)]
def City.OK (x:City):Prop:=ba x.order/\ba x.currency/\(x.rest.length<=maxLen/\∀y,y∈x.rest->ba y)/\(x.feasts.length<=maxLen/\∀y,y∈x.feasts->ba y)/\(x.shut.length<=maxLen/\∀y,y∈x.shut->ba y)
def alS {d:D}(h:DTy ZJ d):∃x:City,d=gT x/\x.OK:=by
 obtain⟨ds,rfl,hs⟩:=h.agg_inv;obtain⟨d0,ds,rfl,h0,hs⟩:=hs.cons_inv;obtain⟨d1,ds,rfl,h1,hs⟩:=hs.cons_inv;obtain⟨d2,ds,rfl,h2,hs⟩:=hs.cons_inv;obtain⟨d3,ds,rfl,h3,hs⟩:=hs.cons_inv;obtain⟨d4,ds,rfl,h4,hs⟩:=hs.cons_inv;obtain⟨d5,ds,rfl,h5,hs⟩:=hs.cons_inv;obtain rfl:=hs.nil_inv;obtain⟨n0,rfl⟩:=str_inv h0;obtain⟨n1,rfl,b1⟩:=h1.i64_inv;obtain⟨n2,rfl,b2⟩:=h2.i64_inv;obtain⟨n3,rfl,b3,c3⟩:=h3.ints_inv;obtain⟨n4,rfl,b4,c4⟩:=h4.ints_inv;obtain⟨n5,rfl,b5,c5⟩:=h5.ints_inv;exact⟨⟨n0,n1,n2,n3,n4,n5⟩,rfl,⟨b1,b2,⟨b3,c3⟩,⟨b4,c4⟩,⟨b5,c5⟩⟩⟩
def alT {d:D}(h:DTy (.slice ZJ) d):∃l:List City,d=pP l/\l.length<=maxLen/\∀y,y∈l->City.OK y:=by
 obtain⟨xs,rfl,hm,hx⟩:=h.slice_inv;obtain⟨l,rfl,hl⟩:=kE (enc:=gT) (P:=City.OK) λx hh=>alS (hx x hh);exact⟨l,rfl,by simpa using hm,hl⟩
structure Firm where
 name:ByteArray
 city:Int
 group:Int
 deriving Inhabited
def uC (x:Firm):D:=.agg [str x.name,.int x.city,.int x.group]
@[simp] def aB9 (x:Firm):(uC x).cells=[str x.name,.int x.city,.int x.group]:=zyz
@[simp] def aGS (x:Firm):D.agg [str x.name,.int x.city,.int x.group]=uC x:=zyz
@[simp] def aB6 (x:Firm):(uC x).c 0=str x.name:=zyz
@[simp] def aB7 (x:Firm):(uC x).c 1=.int x.city:=zyz
@[simp] def aB8 (x:Firm):(uC x).c 2=.int x.group:=zyz
def firms (l:List Firm):D:=.list (l.map uC)
@[simp] def aFo (l:List Firm):(firms l).l=l.map uC:=zyz
abbrev ZK:Ty:=.agg [.str,.int .i64,.int .i64]
def Firm.OK (x:Firm):Prop:=ba x.city/\ba x.group
def anW {d:D}(h:DTy ZK d):∃x:Firm,d=uC x/\x.OK:=by
 obtain⟨ds,rfl,hs⟩:=h.agg_inv;obtain⟨d0,ds,rfl,h0,hs⟩:=hs.cons_inv;obtain⟨d1,ds,rfl,h1,hs⟩:=hs.cons_inv;obtain⟨d2,ds,rfl,h2,hs⟩:=hs.cons_inv;obtain rfl:=hs.nil_inv;obtain⟨n0,rfl⟩:=str_inv h0;obtain⟨n1,rfl,b1⟩:=h1.i64_inv;obtain⟨n2,rfl,b2⟩:=h2.i64_inv;exact⟨⟨n0,n1,n2⟩,rfl,⟨b1,b2⟩⟩
def anX {d:D}(h:DTy (.slice ZK) d):∃l:List Firm,d=firms l/\l.length<=maxLen/\∀y,y∈l->Firm.OK y:=by
 obtain⟨xs,rfl,hm,hx⟩:=h.slice_inv;obtain⟨l,rfl,hl⟩:=kE (enc:=uC) (P:=Firm.OK) λx hh=>anW (hx x hh);exact⟨l,rfl,by simpa using hm,hl⟩
structure Group where
 grade:Int
 deriving DecidableEq,Inhabited
def sX (x:Group):D:=.agg [.int x.grade]
@[simp] def aCb (x:Group):(sX x).cells=[.int x.grade]:=zyz
@[simp] def aGT (x:Group):D.agg [.int x.grade]=sX x:=zyz
@[simp] def aCa (x:Group):(sX x).c 0=.int x.grade:=zyz
def groups (l:List Group):D:=.list (l.map sX)
@[simp] def aFx (l:List Group):(groups l).l=l.map sX:=zyz
abbrev ZL:Ty:=.agg [.int .i64]
def Group.OK (x:Group):Prop:=ba x.grade
def apg {d:D}(h:DTy ZL d):∃x:Group,d=sX x/\x.OK:=by
 obtain⟨ds,rfl,hs⟩:=h.agg_inv;obtain⟨d0,ds,rfl,h0,hs⟩:=hs.cons_inv;obtain rfl:=hs.nil_inv;obtain⟨n0,rfl,b0⟩:=h0.i64_inv;exact⟨⟨n0⟩,rfl,b0⟩
def apj {d:D}(h:DTy (.slice ZL) d):∃l:List Group,d=groups l/\l.length<=maxLen/\∀y,y∈l->Group.OK y:=by
 obtain⟨xs,rfl,hm,hx⟩:=h.slice_inv;obtain⟨l,rfl,hl⟩:=kE (enc:=sX) (P:=Group.OK) λx hh=>apg (hx x hh);exact⟨l,rfl,by simpa using hm,hl⟩
structure Usance where
 fr:Int
 to:Int
 days:Int
 deriving DecidableEq,Inhabited
def uF (x:Usance):D:=.agg [.int x.fr,.int x.to,.int x.days]
@[simp] def aC9 (x:Usance):(uF x).cells=[.int x.fr,.int x.to,.int x.days]:=zyz
@[simp] def aG5 (x:Usance):D.agg [.int x.fr,.int x.to,.int x.days]=uF x:=zyz
@[simp] def aC6 (x:Usance):(uF x).c 0=.int x.fr:=zyz
@[simp] def aC7 (x:Usance):(uF x).c 1=.int x.to:=zyz
@[simp] def aC8 (x:Usance):(uF x).c 2=.int x.days:=zyz
def usances (l:List Usance):D:=.list (l.map uF)
@[simp] def aIb (l:List Usance):(usances l).l=l.map uF:=zyz
abbrev ZQ:Ty:=.agg [.int .i64,.int .i64,.int .i64]
def Usance.OK (x:Usance):Prop:=ba x.fr/\ba x.to/\ba x.days
def aAr {d:D}(h:DTy ZQ d):∃x:Usance,d=uF x/\x.OK:=by
 obtain⟨ds,rfl,hs⟩:=h.agg_inv;obtain⟨d0,ds,rfl,h0,hs⟩:=hs.cons_inv;obtain⟨d1,ds,rfl,h1,hs⟩:=hs.cons_inv;obtain⟨d2,ds,rfl,h2,hs⟩:=hs.cons_inv;obtain rfl:=hs.nil_inv;obtain⟨n0,rfl,b0⟩:=h0.i64_inv;obtain⟨n1,rfl,b1⟩:=h1.i64_inv;obtain⟨n2,rfl,b2⟩:=h2.i64_inv;exact⟨⟨n0,n1,n2⟩,rfl,⟨b0,b1,b2⟩⟩
def aAs {d:D}(h:DTy (.slice ZQ) d):∃l:List Usance,d=usances l/\l.length<=maxLen/\∀y,y∈l->Usance.OK y:=by
 obtain⟨xs,rfl,hm,hx⟩:=h.slice_inv;obtain⟨l,rfl,hl⟩:=kE (enc:=uF) (P:=Usance.OK) λx hh=>aAr (hx x hh);exact⟨l,rfl,by simpa using hm,hl⟩
structure Rate where
 fr:Int
 to:Int
 num:Int
 den:Int
 since:Int
 deriving DecidableEq,Inhabited
def ry (x:Rate):D:=.agg [.int x.fr,.int x.to,.int x.num,.int x.den,.int x.since]
@[simp] def aCt (x:Rate):(ry x).cells=[.int x.fr,.int x.to,.int x.num,.int x.den,.int x.since]:=zyz
@[simp] def aGX (x:Rate):D.agg [.int x.fr,.int x.to,.int x.num,.int x.den,.int x.since]=ry x:=zyz
@[simp] def aCo (x:Rate):(ry x).c 0=.int x.fr:=zyz
@[simp] def aCp (x:Rate):(ry x).c 1=.int x.to:=zyz
@[simp] def aCq (x:Rate):(ry x).c 2=.int x.num:=zyz
@[simp] def aCr (x:Rate):(ry x).c 3=.int x.den:=zyz
@[simp] def aCs (x:Rate):(ry x).c 4=.int x.since:=zyz
def rates (l:List Rate):D:=.list (l.map ry)
@[simp] def aHs (l:List Rate):(rates l).l=l.map ry:=zyz
abbrev ZO:Ty:=.agg [.int .i64,.int .i64,.int .i64,.int .i64,.int .i64]
def Rate.OK (x:Rate):Prop:=ba x.fr/\ba x.to/\ba x.num/\ba x.den/\ba x.since
def awk {d:D}(h:DTy ZO d):∃x:Rate,d=ry x/\x.OK:=by
 obtain⟨ds,rfl,hs⟩:=h.agg_inv;obtain⟨d0,ds,rfl,h0,hs⟩:=hs.cons_inv;obtain⟨d1,ds,rfl,h1,hs⟩:=hs.cons_inv;obtain⟨d2,ds,rfl,h2,hs⟩:=hs.cons_inv;obtain⟨d3,ds,rfl,h3,hs⟩:=hs.cons_inv;obtain⟨d4,ds,rfl,h4,hs⟩:=hs.cons_inv;obtain rfl:=hs.nil_inv;obtain⟨n0,rfl,b0⟩:=h0.i64_inv;obtain⟨n1,rfl,b1⟩:=h1.i64_inv;obtain⟨n2,rfl,b2⟩:=h2.i64_inv;obtain⟨n3,rfl,b3⟩:=h3.i64_inv;obtain⟨n4,rfl,b4⟩:=h4.i64_inv;exact⟨⟨n0,n1,n2,n3,n4⟩,rfl,⟨b0,b1,b2,b3,b4⟩⟩
def awl {d:D}(h:DTy (.slice ZO) d):∃l:List Rate,d=rates l/\l.length<=maxLen/\∀y,y∈l->Rate.OK y:=by
 obtain⟨xs,rfl,hm,hx⟩:=h.slice_inv;obtain⟨l,rfl,hl⟩:=kE (enc:=ry) (P:=Rate.OK) λx hh=>awk (hx x hh);exact⟨l,rfl,by simpa using hm,hl⟩
structure Halt where
 order:Int
 fr:Int
 to:Int
 deriving DecidableEq,Inhabited
def uD (x:Halt):D:=.agg [.int x.order,.int x.fr,.int x.to]
@[simp] def aCf (x:Halt):(uD x).cells=[.int x.order,.int x.fr,.int x.to]:=zyz
@[simp] def aGU (x:Halt):D.agg [.int x.order,.int x.fr,.int x.to]=uD x:=zyz
@[simp] def aCc (x:Halt):(uD x).c 0=.int x.order:=zyz
@[simp] def aCd (x:Halt):(uD x).c 1=.int x.fr:=zyz
@[simp] def aCe (x:Halt):(uD x).c 2=.int x.to:=zyz
def halts (l:List Halt):D:=.list (l.map uD)
@[simp] def aFI (l:List Halt):(halts l).l=l.map uD:=zyz
abbrev ZM:Ty:=.agg [.int .i64,.int .i64,.int .i64]
def Halt.OK (x:Halt):Prop:=ba x.order/\ba x.fr/\ba x.to
def apM {d:D}(h:DTy ZM d):∃x:Halt,d=uD x/\x.OK:=by
 obtain⟨ds,rfl,hs⟩:=h.agg_inv;obtain⟨d0,ds,rfl,h0,hs⟩:=hs.cons_inv;obtain⟨d1,ds,rfl,h1,hs⟩:=hs.cons_inv;obtain⟨d2,ds,rfl,h2,hs⟩:=hs.cons_inv;obtain rfl:=hs.nil_inv;obtain⟨n0,rfl,b0⟩:=h0.i64_inv;obtain⟨n1,rfl,b1⟩:=h1.i64_inv;obtain⟨n2,rfl,b2⟩:=h2.i64_inv;exact⟨⟨n0,n1,n2⟩,rfl,⟨b0,b1,b2⟩⟩
def apN {d:D}(h:DTy (.slice ZM) d):∃l:List Halt,d=halts l/\l.length<=maxLen/\∀y,y∈l->Halt.OK y:=by
 obtain⟨xs,rfl,hm,hx⟩:=h.slice_inv;obtain⟨l,rfl,hl⟩:=kE (enc:=uD) (P:=Halt.OK) λx hh=>apM (hx x hh);exact⟨l,rfl,by simpa using hm,hl⟩
structure Choice where
 ask:Int
 by_:Int
 whole:Bool
 deriving DecidableEq,Inhabited
def vN (x:Choice):D:=.agg [.int x.ask,.int x.by_,.bool x.whole]
@[simp] def aBI (x:Choice):(vN x).cells=[.int x.ask,.int x.by_,.bool x.whole]:=zyz
@[simp] def aGN (x:Choice):D.agg [.int x.ask,.int x.by_,.bool x.whole]=vN x:=zyz
@[simp] def aBG (x:Choice):(vN x).c 0=.int x.ask:=zyz
@[simp] def aBH (x:Choice):(vN x).c 1=.int x.by_:=zyz
def choices (l:List Choice):D:=.list (l.map vN)
@[simp] def aD8 (l:List Choice):(choices l).l=l.map vN:=zyz
abbrev ZI:Ty:=.agg [.int .i64,.int .i64,.bool]
def Choice.OK (x:Choice):Prop:=ba x.ask/\ba x.by_
def alP {d:D}(h:DTy ZI d):∃x:Choice,d=vN x/\x.OK:=by
 obtain⟨ds,rfl,hs⟩:=h.agg_inv;obtain⟨d0,ds,rfl,h0,hs⟩:=hs.cons_inv;obtain⟨d1,ds,rfl,h1,hs⟩:=hs.cons_inv;obtain⟨d2,ds,rfl,h2,hs⟩:=hs.cons_inv;obtain rfl:=hs.nil_inv;obtain⟨n0,rfl,b0⟩:=h0.i64_inv;obtain⟨n1,rfl,b1⟩:=h1.i64_inv;obtain⟨n2,rfl⟩:=h2.bool_inv;exact⟨⟨n0,n1,n2⟩,rfl,⟨b0,b1⟩⟩
def alQ {d:D}(h:DTy (.slice ZI) d):∃l:List Choice,d=choices l/\l.length<=maxLen/\∀y,y∈l->Choice.OK y:=by
 obtain⟨xs,rfl,hm,hx⟩:=h.slice_inv;obtain⟨l,rfl,hl⟩:=kE (enc:=vN) (P:=Choice.OK) λx hh=>alP (hx x hh);exact⟨l,rfl,by simpa using hm,hl⟩
structure Rule where
 ask:Int
 term:Tm
 deriving Inhabited
def uE (x:Rule):D:=.agg [.int x.ask,.int x.term.op,.int x.term.n,.list (x.term.args.map dP)]
@[simp] def aCH (x:Rule):(uE x).cells=[.int x.ask,.int x.term.op,.int x.term.n,.list (x.term.args.map dP)]:=zyz
@[simp] def aG0 (x:Rule):D.agg [.int x.ask,.int x.term.op,.int x.term.n,.list (x.term.args.map dP)]=uE x:=zyz
@[simp] def aCG (x:Rule):(uE x).c 0=.int x.ask:=zyz
def rules (l:List Rule):D:=.list (l.map uE)
@[simp] def aHz (l:List Rule):(rules l).l=l.map uE:=zyz
abbrev ZP:Ty:=.agg [.int .i64,.int .i64,.int .i64,.slice .trm]
def Rule.OK (x:Rule):Prop:=ba x.ask/\Tm.OK x.term
def awV {d:D}(h:DTy ZP d):∃x:Rule,d=uE x/\x.OK:=by
 obtain⟨ds,rfl,hs⟩:=h.agg_inv;obtain⟨d0,ds,rfl,h0,hs⟩:=hs.cons_inv;obtain⟨d1,ds,rfl,h1,hs⟩:=hs.cons_inv;obtain⟨d2,ds,rfl,h2,hs⟩:=hs.cons_inv;obtain⟨d3,ds,rfl,h3,hs⟩:=hs.cons_inv;obtain rfl:=hs.nil_inv;obtain⟨n0,rfl,b0⟩:=h0.i64_inv;obtain⟨n1,rfl,b1⟩:=h1.i64_inv;obtain⟨n2,rfl,b2⟩:=h2.i64_inv;obtain⟨n3,rfl,b3,c3⟩:=h3.trms_inv;exact⟨⟨n0,.mk n1 n2 n3⟩,rfl,⟨b0,.mk _ _ _ b1 b2 b3 c3⟩⟩
def awW {d:D}(h:DTy (.slice ZP) d):∃l:List Rule,d=rules l/\l.length<=maxLen/\∀y,y∈l->Rule.OK y:=by
 obtain⟨xs,rfl,hm,hx⟩:=h.slice_inv;obtain⟨l,rfl,hl⟩:=kE (enc:=uE) (P:=Rule.OK) λx hh=>awV (hx x hh);exact⟨l,rfl,by simpa using hm,hl⟩
structure Order where
 name:ByteArray
 accepts:Bool
 choices:List Choice
 rules:List Rule
 deriving Inhabited
def kq (x:Order):D:=.agg [str x.name,.bool x.accepts,choices x.choices,rules x.rules]
@[simp] def aCk (x:Order):(kq x).cells=[str x.name,.bool x.accepts,choices x.choices,rules x.rules]:=zyz
@[simp] def aGV (x:Order):D.agg [str x.name,.bool x.accepts,choices x.choices,rules x.rules]=kq x:=zyz
@[simp] def aDK (x:Order):kl 4 (kq x)=kq x:=zyz
@[simp] def aCg (x:Order):(kq x).c 0=str x.name:=zyz
@[simp] def aCh (x:Order):(kq x).c 1=.bool x.accepts:=zyz
@[simp] def aCi (x:Order):(kq x).c 2=choices x.choices:=zyz
@[simp] def aCj (x:Order):(kq x).c 3=rules x.rules:=zyz
def orders (l:List Order):D:=.list (l.map kq)
@[simp] def aHd (l:List Order):(orders l).l=l.map kq:=zyz
abbrev ZN:Ty:=.agg [.str,.bool,.slice ZI,.slice ZP]
def Order.OK (x:Order):Prop:=(x.choices.length<=maxLen/\∀y,y∈x.choices->Choice.OK y)/\(x.rules.length<=maxLen/\∀y,y∈x.rules->Rule.OK y)
def au8 {d:D}(h:DTy ZN d):∃x:Order,d=kq x/\x.OK:=by
 obtain⟨ds,rfl,hs⟩:=h.agg_inv;obtain⟨d0,ds,rfl,h0,hs⟩:=hs.cons_inv;obtain⟨d1,ds,rfl,h1,hs⟩:=hs.cons_inv;obtain⟨d2,ds,rfl,h2,hs⟩:=hs.cons_inv;obtain⟨d3,ds,rfl,h3,hs⟩:=hs.cons_inv;obtain rfl:=hs.nil_inv;obtain⟨n0,rfl⟩:=str_inv h0;obtain⟨n1,rfl⟩:=h1.bool_inv;obtain⟨n2,rfl,b2,c2⟩:=alQ h2;obtain⟨n3,rfl,b3,c3⟩:=awW h3;exact⟨⟨n0,n1,n2,n3⟩,rfl,⟨⟨b2,c2⟩,⟨b3,c3⟩⟩⟩
def au9 {d:D}(h:DTy (.slice ZN) d):∃l:List Order,d=orders l/\l.length<=maxLen/\∀y,y∈l->Order.OK y:=by
 obtain⟨xs,rfl,hm,hx⟩:=h.slice_inv;obtain⟨l,rfl,hl⟩:=kE (enc:=kq) (P:=Order.OK) λx hh=>au8 (hx x hh);exact⟨l,rfl,by simpa using hm,hl⟩
structure Realm where
 currencies:List ByteArray
 cities:List City
 groups:List Group
 firms:List Firm
 orders:List Order
 usances:List Usance
 rates:List Rate
 halts:List Halt
 deriving Inhabited
abbrev zzy (x:Realm):List D:=[strs x.currencies,pP x.cities,groups x.groups,firms x.firms,orders x.orders,usances x.usances,rates x.rates,halts x.halts]
def aP (x:Realm):D:=.agg (zzy x)
@[simp] def aCF (x:Realm):(aP x).cells=(zzy x):=zyz
@[simp] def aGZ (x:Realm):D.agg (zzy x)=aP x:=zyz
@[simp] def aDL (x:Realm):kl 8 (aP x)=aP x:=zyz
@[simp] def aHh (x:Realm)(a0 a1 a2 a3 a4 a5 a6 a7:D):D.agg (dg [a0,a1,a2,a3,a4,a5,a6,a7] 0 (zzy x))=aP x:=zyz
@[simp] def aCx (x:Realm):(aP x).c 0=strs x.currencies:=zyz
@[simp] def aCy (x:Realm):(aP x).c 1=pP x.cities:=zyz
@[simp] def aCz (x:Realm):(aP x).c 2=groups x.groups:=zyz
@[simp] def aCA (x:Realm):(aP x).c 3=firms x.firms:=zyz
@[simp] def aCB (x:Realm):(aP x).c 4=orders x.orders:=zyz
@[simp] def aCC (x:Realm):(aP x).c 5=usances x.usances:=zyz
@[simp] def aCD (x:Realm):(aP x).c 6=rates x.rates:=zyz
@[simp] def aCE (x:Realm):(aP x).c 7=halts x.halts:=zyz
abbrev aAl:Ty:=.agg [.slice .str,.slice ZJ,.slice ZL,.slice ZK,.slice ZN,.slice ZQ,.slice ZO,.slice ZM]
def Realm.OK (x:Realm):Prop:=x.currencies.length<=maxLen/\(x.cities.length<=maxLen/\∀y,y∈x.cities->City.OK y)/\(x.groups.length<=maxLen/\∀y,y∈x.groups->Group.OK y)/\(x.firms.length<=maxLen/\∀y,y∈x.firms->Firm.OK y)/\(x.orders.length<=maxLen/\∀y,y∈x.orders->Order.OK y)/\(x.usances.length<=maxLen/\∀y,y∈x.usances->Usance.OK y)/\(x.rates.length<=maxLen/\∀y,y∈x.rates->Rate.OK y)/\(x.halts.length<=maxLen/\∀y,y∈x.halts->Halt.OK y)
def aww {d:D}(h:DTy aAl d):∃x:Realm,d=aP x/\x.OK:=by
 obtain⟨ds,rfl,hs⟩:=h.agg_inv;obtain⟨d0,ds,rfl,h0,hs⟩:=hs.cons_inv;obtain⟨d1,ds,rfl,h1,hs⟩:=hs.cons_inv;obtain⟨d2,ds,rfl,h2,hs⟩:=hs.cons_inv;obtain⟨d3,ds,rfl,h3,hs⟩:=hs.cons_inv;obtain⟨d4,ds,rfl,h4,hs⟩:=hs.cons_inv;obtain⟨d5,ds,rfl,h5,hs⟩:=hs.cons_inv;obtain⟨d6,ds,rfl,h6,hs⟩:=hs.cons_inv;obtain⟨d7,ds,rfl,h7,hs⟩:=hs.cons_inv;obtain rfl:=hs.nil_inv;obtain⟨n0,rfl,b0⟩:=axv h0;obtain⟨n1,rfl,b1,c1⟩:=alT h1;obtain⟨n2,rfl,b2,c2⟩:=apj h2;obtain⟨n3,rfl,b3,c3⟩:=anX h3;obtain⟨n4,rfl,b4,c4⟩:=au9 h4;obtain⟨n5,rfl,b5,c5⟩:=aAs h5;obtain⟨n6,rfl,b6,c6⟩:=awl h6;obtain⟨n7,rfl,b7,c7⟩:=apN h7;exact⟨⟨n0,n1,n2,n3,n4,n5,n6,n7⟩,rfl,⟨b0,⟨b1,c1⟩,⟨b2,c2⟩,⟨b3,c3⟩,⟨b4,c4⟩,⟨b5,c5⟩,⟨b6,c6⟩,⟨b7,c7⟩⟩⟩
structure Tenor where
 kind:Int
 n:Int
 unit:Int
 deriving DecidableEq,Inhabited
def pS (x:Tenor):D:=.agg [.int x.kind,.int x.n,.int x.unit]
@[simp] def aC4 (x:Tenor):(pS x).cells=[.int x.kind,.int x.n,.int x.unit]:=zyz
@[simp] def aG4 (x:Tenor):D.agg [.int x.kind,.int x.n,.int x.unit]=pS x:=zyz
@[simp] def aC1 (x:Tenor):(pS x).c 0=.int x.kind:=zyz
@[simp] def aC2 (x:Tenor):(pS x).c 1=.int x.n:=zyz
@[simp] def aC3 (x:Tenor):(pS x).c 2=.int x.unit:=zyz
def Tenor.OK (x:Tenor):Prop:=ba x.kind/\ba x.n/\ba x.unit
structure Bill where
 drawer:Int
 drawee:Int
 payee:Int
 sum:Int
 currency:Int
 tenor:Tenor
 day:Int
 city:Int
 pay:Int
 need:Int
 rate:Int
 flags:Int
 parts:Int
 deriving DecidableEq,Inhabited
abbrev zzz (x:Bill):List D:=[.int x.drawer,.int x.drawee,.int x.payee,.int x.sum,.int x.currency,.int x.tenor.kind,.int x.tenor.n,.int x.tenor.unit,.int x.day,.int x.city,.int x.pay,.int x.need,.int x.rate,.int x.flags,.int x.parts]
def dJ (x:Bill):D:=.agg (zzz x)
@[simp] def aBt (x:Bill):(dJ x).cells=(zzz x):=zyz
@[simp] def aGK (x:Bill):D.agg (zzz x)=dJ x:=zyz
@[simp] def aDH (x:Bill):kl 15 (dJ x)=dJ x:=zyz
@[simp] def aHe (x:Bill)(a0 a1 a2 a3 a4 a5 a6 a7 a8 a9 mO mP a12 mQ mR:D):D.agg (dg [a0,a1,a2,a3,a4,a5,a6,a7,a8,a9,mO,mP,a12,mQ,mR] 0 (zzz x))=dJ x:=zyz
@[simp] def aBe (x:Bill):(dJ x).c 0=.int x.drawer:=zyz
@[simp] def aBf (x:Bill):(dJ x).c 1=.int x.drawee:=zyz
@[simp] def aBl (x:Bill):(dJ x).c 2=.int x.payee:=zyz
@[simp] def aBm (x:Bill):(dJ x).c 3=.int x.sum:=zyz
@[simp] def aBn (x:Bill):(dJ x).c 4=.int x.currency:=zyz
@[simp] def aBo (x:Bill):(dJ x).c 5=.int x.tenor.kind:=zyz
@[simp] def aBp (x:Bill):(dJ x).c 6=.int x.tenor.n:=zyz
@[simp] def aBq (x:Bill):(dJ x).c 7=.int x.tenor.unit:=zyz
@[simp] def aBr (x:Bill):(dJ x).c 8=.int x.day:=zyz
@[simp] def aBs (x:Bill):(dJ x).c 9=.int x.city:=zyz
@[simp] def aBg (x:Bill):(dJ x).c 10=.int x.pay:=zyz
@[simp] def aBh (x:Bill):(dJ x).c 11=.int x.need:=zyz
@[simp] def aBi (x:Bill):(dJ x).c 12=.int x.rate:=zyz
@[simp] def aBj (x:Bill):(dJ x).c 13=.int x.flags:=zyz
@[simp] def aBk (x:Bill):(dJ x).c 14=.int x.parts:=zyz
def Bill.OK (x:Bill):Prop:=ba x.drawer/\ba x.drawee/\ba x.payee/\ba x.sum/\ba x.currency/\Tenor.OK x.tenor/\ba x.day/\ba x.city/\ba x.pay/\ba x.need/\ba x.rate/\ba x.flags/\ba x.parts
structure Sign where
 kind:Int
 part:Int
 who:Int
 for_:Int
 to:Int
 sum:Int
 day:Int
 city:Int
 flags:Int
 deriving DecidableEq,Inhabited
abbrev zzx (x:Sign):List D:=[.int x.kind,.int x.part,.int x.who,.int x.for_,.int x.to,.int x.sum,.int x.day,.int x.city,.int x.flags]
def ix (x:Sign):D:=.agg (zzx x)
@[simp] def aCV (x:Sign):(ix x).cells=(zzx x):=zyz
@[simp] def aG3 (x:Sign):D.agg (zzx x)=ix x:=zyz
@[simp] def aDN (x:Sign):kl 9 (ix x)=ix x:=zyz
@[simp] def aCM (x:Sign):(ix x).c 0=.int x.kind:=zyz
@[simp] def aCN (x:Sign):(ix x).c 1=.int x.part:=zyz
@[simp] def aCO (x:Sign):(ix x).c 2=.int x.who:=zyz
@[simp] def aCP (x:Sign):(ix x).c 3=.int x.for_:=zyz
@[simp] def aCQ (x:Sign):(ix x).c 4=.int x.to:=zyz
@[simp] def aCR (x:Sign):(ix x).c 5=.int x.sum:=zyz
@[simp] def aCS (x:Sign):(ix x).c 6=.int x.day:=zyz
@[simp] def aCT (x:Sign):(ix x).c 7=.int x.city:=zyz
@[simp] def aCU (x:Sign):(ix x).c 8=.int x.flags:=zyz
def signs (l:List Sign):D:=.list (l.map ix)
@[simp] def aHO (l:List Sign):(signs l).l=l.map ix:=zyz
@[simp] def aHN (l:List Sign):(signs l).cells=[signs l]:=zyz
abbrev O7:Ty:=.agg [.int .i64,.int .i64,.int .i64,.int .i64,.int .i64,.int .i64,.int .i64,.int .i64,.int .i64]
def Sign.OK (x:Sign):Prop:=ba x.kind/\ba x.part/\ba x.who/\ba x.for_/\ba x.to/\ba x.sum/\ba x.day/\ba x.city/\ba x.flags
def ajj {d:D}(h:DTy O7 d):∃x:Sign,d=ix x/\x.OK:=by
 obtain⟨ds,rfl,hs⟩:=h.agg_inv;obtain⟨d0,ds,rfl,h0,hs⟩:=hs.cons_inv;obtain⟨d1,ds,rfl,h1,hs⟩:=hs.cons_inv;obtain⟨d2,ds,rfl,h2,hs⟩:=hs.cons_inv;obtain⟨d3,ds,rfl,h3,hs⟩:=hs.cons_inv;obtain⟨d4,ds,rfl,h4,hs⟩:=hs.cons_inv;obtain⟨d5,ds,rfl,h5,hs⟩:=hs.cons_inv;obtain⟨d6,ds,rfl,h6,hs⟩:=hs.cons_inv;obtain⟨d7,ds,rfl,h7,hs⟩:=hs.cons_inv;obtain⟨d8,ds,rfl,h8,hs⟩:=hs.cons_inv;obtain rfl:=hs.nil_inv;obtain⟨n0,rfl,b0⟩:=h0.i64_inv;obtain⟨n1,rfl,b1⟩:=h1.i64_inv;obtain⟨n2,rfl,b2⟩:=h2.i64_inv;obtain⟨n3,rfl,b3⟩:=h3.i64_inv;obtain⟨n4,rfl,b4⟩:=h4.i64_inv;obtain⟨n5,rfl,b5⟩:=h5.i64_inv;obtain⟨n6,rfl,b6⟩:=h6.i64_inv;obtain⟨n7,rfl,b7⟩:=h7.i64_inv;obtain⟨n8,rfl,b8⟩:=h8.i64_inv;exact⟨⟨n0,n1,n2,n3,n4,n5,n6,n7,n8⟩,rfl,⟨b0,b1,b2,b3,b4,b5,b6,b7,b8⟩⟩
def axh {d:D}(h:DTy (.slice O7) d):∃l:List Sign,d=signs l/\l.length<=maxLen/\∀y,y∈l->Sign.OK y:=by
 obtain⟨xs,rfl,hm,hx⟩:=h.slice_inv;obtain⟨l,rfl,hl⟩:=kE (enc:=ix) (P:=Sign.OK) λx hh=>ajj (hx x hh);exact⟨l,rfl,by simpa using hm,hl⟩
structure Alter where
 at_:Int
 sum:Int
 deriving DecidableEq,Inhabited
def pR (x:Alter):D:=.agg [.int x.at_,.int x.sum]
@[simp] def aBd (x:Alter):(pR x).cells=[.int x.at_,.int x.sum]:=zyz
@[simp] def aGJ (x:Alter):D.agg [.int x.at_,.int x.sum]=pR x:=zyz
@[simp] def aBb (x:Alter):(pR x).c 0=.int x.at_:=zyz
@[simp] def aBc (x:Alter):(pR x).c 1=.int x.sum:=zyz
def alters (l:List Alter):D:=.list (l.map pR)
@[simp] def aDR (l:List Alter):(alters l).l=l.map pR:=zyz
@[simp] def aDQ (l:List Alter):(alters l).cells=[alters l]:=zyz
abbrev O5:Ty:=.agg [.int .i64,.int .i64]
def Alter.OK (x:Alter):Prop:=ba x.at_/\ba x.sum
def akM {d:D}(h:DTy O5 d):∃x:Alter,d=pR x/\x.OK:=by
 obtain⟨ds,rfl,hs⟩:=h.agg_inv;obtain⟨d0,ds,rfl,h0,hs⟩:=hs.cons_inv;obtain⟨d1,ds,rfl,h1,hs⟩:=hs.cons_inv;obtain rfl:=hs.nil_inv;obtain⟨n0,rfl,b0⟩:=h0.i64_inv;obtain⟨n1,rfl,b1⟩:=h1.i64_inv;exact⟨⟨n0,n1⟩,rfl,⟨b0,b1⟩⟩
def akN {d:D}(h:DTy (.slice O5) d):∃l:List Alter,d=alters l/\l.length<=maxLen/\∀y,y∈l->Alter.OK y:=by
 obtain⟨xs,rfl,hm,hx⟩:=h.slice_inv;obtain⟨l,rfl,hl⟩:=kE (enc:=pR) (P:=Alter.OK) λx hh=>akM (hx x hh);exact⟨l,rfl,by simpa using hm,hl⟩
structure Act where
 kind:Int
 who:Int
 to:Int
 part:Int
 at_:Int
 sum:Int
 day:Int
 city:Int
 form:Int
 deriving DecidableEq,Inhabited
abbrev zzw (x:Act):List D:=[.int x.kind,.int x.who,.int x.to,.int x.part,.int x.at_,.int x.sum,.int x.day,.int x.city,.int x.form]
def jO (x:Act):D:=.agg (zzw x)
@[simp] def aBa (x:Act):(jO x).cells=(zzw x):=zyz
@[simp] def aGI (x:Act):D.agg (zzw x)=jO x:=zyz
@[simp] def aDG (x:Act):kl 9 (jO x)=jO x:=zyz
@[simp] def aA1 (x:Act):(jO x).c 0=.int x.kind:=zyz
@[simp] def aA2 (x:Act):(jO x).c 1=.int x.who:=zyz
@[simp] def aA3 (x:Act):(jO x).c 2=.int x.to:=zyz
@[simp] def aA4 (x:Act):(jO x).c 3=.int x.part:=zyz
@[simp] def aA5 (x:Act):(jO x).c 4=.int x.at_:=zyz
@[simp] def aA6 (x:Act):(jO x).c 5=.int x.sum:=zyz
@[simp] def aA7 (x:Act):(jO x).c 6=.int x.day:=zyz
@[simp] def aA8 (x:Act):(jO x).c 7=.int x.city:=zyz
@[simp] def aA9 (x:Act):(jO x).c 8=.int x.form:=zyz
def acts (l:List Act):D:=.list (l.map jO)
@[simp] def aDz (l:List Act):(acts l).l=l.map jO:=zyz
@[simp] def aDy (l:List Act):(acts l).cells=[acts l]:=zyz
abbrev O4:Ty:=.agg [.int .i64,.int .i64,.int .i64,.int .i64,.int .i64,.int .i64,.int .i64,.int .i64,.int .i64]
def Act.OK (x:Act):Prop:=ba x.kind/\ba x.who/\ba x.to/\ba x.part/\ba x.at_/\ba x.sum/\ba x.day/\ba x.city/\ba x.form
def akE {d:D}(h:DTy O4 d):∃x:Act,d=jO x/\x.OK:=by
 obtain⟨ds,rfl,hs⟩:=h.agg_inv;obtain⟨d0,ds,rfl,h0,hs⟩:=hs.cons_inv;obtain⟨d1,ds,rfl,h1,hs⟩:=hs.cons_inv;obtain⟨d2,ds,rfl,h2,hs⟩:=hs.cons_inv;obtain⟨d3,ds,rfl,h3,hs⟩:=hs.cons_inv;obtain⟨d4,ds,rfl,h4,hs⟩:=hs.cons_inv;obtain⟨d5,ds,rfl,h5,hs⟩:=hs.cons_inv;obtain⟨d6,ds,rfl,h6,hs⟩:=hs.cons_inv;obtain⟨d7,ds,rfl,h7,hs⟩:=hs.cons_inv;obtain⟨d8,ds,rfl,h8,hs⟩:=hs.cons_inv;obtain rfl:=hs.nil_inv;obtain⟨n0,rfl,b0⟩:=h0.i64_inv;obtain⟨n1,rfl,b1⟩:=h1.i64_inv;obtain⟨n2,rfl,b2⟩:=h2.i64_inv;obtain⟨n3,rfl,b3⟩:=h3.i64_inv;obtain⟨n4,rfl,b4⟩:=h4.i64_inv;obtain⟨n5,rfl,b5⟩:=h5.i64_inv;obtain⟨n6,rfl,b6⟩:=h6.i64_inv;obtain⟨n7,rfl,b7⟩:=h7.i64_inv;obtain⟨n8,rfl,b8⟩:=h8.i64_inv;exact⟨⟨n0,n1,n2,n3,n4,n5,n6,n7,n8⟩,rfl,⟨b0,b1,b2,b3,b4,b5,b6,b7,b8⟩⟩
def akF {d:D}(h:DTy (.slice O4) d):∃l:List Act,d=acts l/\l.length<=maxLen/\∀y,y∈l->Act.OK y:=by
 obtain⟨xs,rfl,hm,hx⟩:=h.slice_inv;obtain⟨l,rfl,hl⟩:=kE (enc:=jO) (P:=Act.OK) λx hh=>akE (hx x hh);exact⟨l,rfl,by simpa using hm,hl⟩
structure Fact where
 kind:Int
 at_:Int
 n:Int
 deriving DecidableEq,Inhabited
def sW (x:Fact):D:=.agg [.int x.kind,.int x.at_,.int x.n]
@[simp] def aBW (x:Fact):(sW x).cells=[.int x.kind,.int x.at_,.int x.n]:=zyz
@[simp] def aGQ (x:Fact):D.agg [.int x.kind,.int x.at_,.int x.n]=sW x:=zyz
@[simp] def aBT (x:Fact):(sW x).c 0=.int x.kind:=zyz
@[simp] def aBU (x:Fact):(sW x).c 1=.int x.at_:=zyz
@[simp] def aBV (x:Fact):(sW x).c 2=.int x.n:=zyz
def facts (l:List Fact):D:=.list (l.map sW)
@[simp] def aFm (l:List Fact):(facts l).l=l.map sW:=zyz
@[simp] def aFl (l:List Fact):(facts l).cells=[facts l]:=zyz
abbrev O6:Ty:=.agg [.int .i64,.int .i64,.int .i64]
def Fact.OK (x:Fact):Prop:=ba x.kind/\ba x.at_/\ba x.n
def anO {d:D}(h:DTy O6 d):∃x:Fact,d=sW x/\x.OK:=by
 obtain⟨ds,rfl,hs⟩:=h.agg_inv;obtain⟨d0,ds,rfl,h0,hs⟩:=hs.cons_inv;obtain⟨d1,ds,rfl,h1,hs⟩:=hs.cons_inv;obtain⟨d2,ds,rfl,h2,hs⟩:=hs.cons_inv;obtain rfl:=hs.nil_inv;obtain⟨n0,rfl,b0⟩:=h0.i64_inv;obtain⟨n1,rfl,b1⟩:=h1.i64_inv;obtain⟨n2,rfl,b2⟩:=h2.i64_inv;exact⟨⟨n0,n1,n2⟩,rfl,⟨b0,b1,b2⟩⟩
def anP {d:D}(h:DTy (.slice O6) d):∃l:List Fact,d=facts l/\l.length<=maxLen/\∀y,y∈l->Fact.OK y:=by
 obtain⟨xs,rfl,hm,hx⟩:=h.slice_inv;obtain⟨l,rfl,hl⟩:=kE (enc:=sW) (P:=Fact.OK) λx hh=>anO (hx x hh);exact⟨l,rfl,by simpa using hm,hl⟩
structure File where
 bill:Bill
 signs:List Sign
 alters:List Alter
 acts:List Act
 facts:List Fact
 deriving Inhabited
abbrev WP (x:File):List D:=[.int x.bill.drawer,.int x.bill.drawee,.int x.bill.payee,.int x.bill.sum,.int x.bill.currency,.int x.bill.tenor.kind,.int x.bill.tenor.n,.int x.bill.tenor.unit,.int x.bill.day,.int x.bill.city,.int x.bill.pay,.int x.bill.need,.int x.bill.rate,.int x.bill.flags,.int x.bill.parts,signs x.signs,alters x.alters,acts x.acts,facts x.facts]
def cf (x:File):D:=.agg (WP x)
@[simp] def aB5 (x:File):(cf x).cells=(WP x):=zyz
@[simp] def aGR (x:File):D.agg (WP x)=cf x:=zyz
@[simp] def aDJ (x:File):kl 19 (cf x)=cf x:=zyz
@[simp] def aHf (x:File)(a0 a1 a2 a3 a4 a5 a6 a7 a8 a9 mO mP a12 mQ mR qV qW a17 qX:D):D.agg (dg [a0,a1,a2,a3,a4,a5,a6,a7,a8,a9,mO,mP,a12,mQ,mR,qV,qW,a17,qX] 0 (WP x))=cf x:=zyz
@[simp] def aB2 (x:File):(cf x).c 3=.int x.bill.sum:=zyz
@[simp] def aB3 (x:File):(cf x).c 5=.int x.bill.tenor.kind:=zyz
@[simp] def aB4 (x:File):(cf x).c 8=.int x.bill.day:=zyz
@[simp] def aBX (x:File):(cf x).c 14=.int x.bill.parts:=zyz
@[simp] def aBY (x:File):(cf x).c 15=signs x.signs:=zyz
@[simp] def aBZ (x:File):(cf x).c 16=alters x.alters:=zyz
@[simp] def aB0 (x:File):(cf x).c 17=acts x.acts:=zyz
@[simp] def aB1 (x:File):(cf x).c 18=facts x.facts:=zyz
abbrev aAj:Ty:=.agg [.int .i64,.int .i64,.int .i64,.int .i64,.int .i64,.int .i64,.int .i64,.int .i64,.int .i64,.int .i64,.int .i64,.int .i64,.int .i64,.int .i64,.int .i64,.slice O7,.slice O5,.slice O4,.slice O6]
def File.OK (x:File):Prop:=Bill.OK x.bill/\(x.signs.length<=maxLen/\∀y,y∈x.signs->Sign.OK y)/\(x.alters.length<=maxLen/\∀y,y∈x.alters->Alter.OK y)/\(x.acts.length<=maxLen/\∀y,y∈x.acts->Act.OK y)/\(x.facts.length<=maxLen/\∀y,y∈x.facts->Fact.OK y)
def anQ {d:D}(h:DTy aAj d):∃x:File,d=cf x/\x.OK:=by
 obtain⟨ds,rfl,hs⟩:=h.agg_inv;obtain⟨d0,ds,rfl,h0,hs⟩:=hs.cons_inv;obtain⟨d1,ds,rfl,h1,hs⟩:=hs.cons_inv;obtain⟨d2,ds,rfl,h2,hs⟩:=hs.cons_inv;obtain⟨d3,ds,rfl,h3,hs⟩:=hs.cons_inv;obtain⟨d4,ds,rfl,h4,hs⟩:=hs.cons_inv;obtain⟨d5,ds,rfl,h5,hs⟩:=hs.cons_inv;obtain⟨d6,ds,rfl,h6,hs⟩:=hs.cons_inv;obtain⟨d7,ds,rfl,h7,hs⟩:=hs.cons_inv;obtain⟨d8,ds,rfl,h8,hs⟩:=hs.cons_inv;obtain⟨d9,ds,rfl,h9,hs⟩:=hs.cons_inv;obtain⟨d10,ds,rfl,jt,hs⟩:=hs.cons_inv;obtain⟨d11,ds,rfl,uL,hs⟩:=hs.cons_inv;obtain⟨d12,ds,rfl,RA,hs⟩:=hs.cons_inv;obtain⟨d13,ds,rfl,h13,hs⟩:=hs.cons_inv;obtain⟨d14,ds,rfl,h14,hs⟩:=hs.cons_inv;obtain⟨d15,ds,rfl,Lj,hs⟩:=hs.cons_inv;obtain⟨d16,ds,rfl,Ll,hs⟩:=hs.cons_inv;obtain⟨d17,ds,rfl,Lm,hs⟩:=hs.cons_inv;obtain⟨d18,ds,rfl,Ln,hs⟩:=hs.cons_inv;obtain rfl:=hs.nil_inv;obtain⟨n0,rfl,b0⟩:=h0.i64_inv;obtain⟨n1,rfl,b1⟩:=h1.i64_inv;obtain⟨n2,rfl,b2⟩:=h2.i64_inv;obtain⟨n3,rfl,b3⟩:=h3.i64_inv;obtain⟨n4,rfl,b4⟩:=h4.i64_inv;obtain⟨n5,rfl,b5⟩:=h5.i64_inv;obtain⟨n6,rfl,b6⟩:=h6.i64_inv;obtain⟨n7,rfl,b7⟩:=h7.i64_inv;obtain⟨n8,rfl,b8⟩:=h8.i64_inv;obtain⟨n9,rfl,b9⟩:=h9.i64_inv;obtain⟨n10,rfl,b10⟩:=jt.i64_inv;obtain⟨n11,rfl,b11⟩:=uL.i64_inv;obtain⟨n12,rfl,b12⟩:=RA.i64_inv;obtain⟨n13,rfl,b13⟩:=h13.i64_inv;obtain⟨n14,rfl,b14⟩:=h14.i64_inv;obtain⟨n15,rfl,b15,c15⟩:=axh Lj;obtain⟨n16,rfl,b16,c16⟩:=akN Ll;obtain⟨n17,rfl,b17,c17⟩:=akF Lm;obtain⟨n18,rfl,b18,c18⟩:=anP Ln;exact⟨⟨⟨n0,n1,n2,n3,n4,⟨n5,n6,n7⟩,n8,n9,n10,n11,n12,n13,n14⟩,n15,n16,n17,n18⟩,rfl,⟨⟨b0,b1,b2,b3,b4,⟨b5,b6,b7⟩,b8,b9,b10,b11,b12,b13,b14⟩,⟨b15,c15⟩,⟨b16,c16⟩,⟨b17,c17⟩,⟨b18,c18⟩⟩⟩
structure Case where
 file:File
 sign:Int
 holder:Int
 defence:Int
 due:Int
 day:Int
 deriving Inhabited
def fS (x:Case):D:=.agg [.int x.file.bill.drawer,.int x.file.bill.drawee,.int x.file.bill.payee,.int x.file.bill.sum,.int x.file.bill.currency,.int x.file.bill.tenor.kind,.int x.file.bill.tenor.n,.int x.file.bill.tenor.unit,.int x.file.bill.day,.int x.file.bill.city,.int x.file.bill.pay,.int x.file.bill.need,.int x.file.bill.rate,.int x.file.bill.flags,.int x.file.bill.parts,signs x.file.signs,alters x.file.alters,acts x.file.acts,facts x.file.facts,.int x.sign,.int x.holder,.int x.defence,.int x.due,.int x.day]
@[simp] def aBC (x:Case):(fS x).cells=[.int x.file.bill.drawer,.int x.file.bill.drawee,.int x.file.bill.payee,.int x.file.bill.sum,.int x.file.bill.currency,.int x.file.bill.tenor.kind,.int x.file.bill.tenor.n,.int x.file.bill.tenor.unit,.int x.file.bill.day,.int x.file.bill.city,.int x.file.bill.pay,.int x.file.bill.need,.int x.file.bill.rate,.int x.file.bill.flags,.int x.file.bill.parts,signs x.file.signs,alters x.file.alters,acts x.file.acts,facts x.file.facts,.int x.sign,.int x.holder,.int x.defence,.int x.due,.int x.day]:=zyz
@[simp] def aGL (x:Case):D.agg [.int x.file.bill.drawer,.int x.file.bill.drawee,.int x.file.bill.payee,.int x.file.bill.sum,.int x.file.bill.currency,.int x.file.bill.tenor.kind,.int x.file.bill.tenor.n,.int x.file.bill.tenor.unit,.int x.file.bill.day,.int x.file.bill.city,.int x.file.bill.pay,.int x.file.bill.need,.int x.file.bill.rate,.int x.file.bill.flags,.int x.file.bill.parts,signs x.file.signs,alters x.file.alters,acts x.file.acts,facts x.file.facts,.int x.sign,.int x.holder,.int x.defence,.int x.due,.int x.day]=fS x:=zyz
@[simp] def akL (x:Case):kl 24 (fS x)=fS x:=zyz
@[simp] def ava (x:Case)(a0 a1 a2 a3 a4 a5 a6 a7 a8 a9 mO mP a12 mQ mR qV qW a17 qX PF a20 a21 a22 a23:D):D.agg (dg [a0,a1,a2,a3,a4,a5,a6,a7,a8,a9,mO,mP,a12,mQ,mR,qV,qW,a17,qX,PF,a20,a21,a22,a23] 0 [.int x.file.bill.drawer,.int x.file.bill.drawee,.int x.file.bill.payee,.int x.file.bill.sum,.int x.file.bill.currency,.int x.file.bill.tenor.kind,.int x.file.bill.tenor.n,.int x.file.bill.tenor.unit,.int x.file.bill.day,.int x.file.bill.city,.int x.file.bill.pay,.int x.file.bill.need,.int x.file.bill.rate,.int x.file.bill.flags,.int x.file.bill.parts,signs x.file.signs,alters x.file.alters,acts x.file.acts,facts x.file.facts,.int x.sign,.int x.holder,.int x.defence,.int x.due,.int x.day])=fS x:=zyz
@[simp] def aBB (x:Case):(fS x).c 9=.int x.file.bill.city:=zyz
@[simp] def aBu (x:Case):(fS x).c 10=.int x.file.bill.pay:=zyz
@[simp] def aBv (x:Case):(fS x).c 15=signs x.file.signs:=zyz
@[simp] def aBw (x:Case):(fS x).c 19=.int x.sign:=zyz
@[simp] def aBx (x:Case):(fS x).c 20=.int x.holder:=zyz
@[simp] def aBy (x:Case):(fS x).c 21=.int x.defence:=zyz
@[simp] def aBz (x:Case):(fS x).c 22=.int x.due:=zyz
@[simp] def aBA (x:Case):(fS x).c 23=.int x.day:=zyz
def cases(l:List Case):D:=.list (l.map fS)
structure Cell where
 known:Bool
 n:Int
 deriving DecidableEq,Inhabited
def cX (x:Cell):D:=.agg [.bool x.known,.int x.n]
@[simp] def aBF (x:Cell):(cX x).cells=[.bool x.known,.int x.n]:=zyz
@[simp] def aGM (x:Cell):D.agg [.bool x.known,.int x.n]=cX x:=zyz
@[simp] def aBD (x:Cell):(cX x).c 0=.bool x.known:=zyz
@[simp] def aBE (x:Cell):(cX x).c 1=.int x.n:=zyz
def cells (l:List Cell):D:=.list (l.map cX)
@[simp] def aD7 (l:List Cell):(cells l).l=l.map cX:=zyz
@[simp] def aD6 (l:List Cell):(cells l).cells=[cells l]:=zyz
structure Said where
 cell:Cell
 order:Int
 path:List Int
 err:Int
 deriving Inhabited
def rz (x:Said):D:=.agg [.bool x.cell.known,.int x.cell.n,.int x.order,ints x.path,.int x.err]
@[simp] def aCI (x:Said):(rz x).cells=[.bool x.cell.known,.int x.cell.n,.int x.order,ints x.path,.int x.err]:=zyz
@[simp] def aG1 (x:Said):D.agg [.bool x.cell.known,.int x.cell.n,.int x.order,ints x.path,.int x.err]=rz x:=zyz
@[simp] def aDM (x:Said):kl 5 (rz x)=rz x:=zyz
structure Effect where
 sign:Int
 kind:Int
 firm:Int
 binds:Int
 text:Int
 sum:Int
 recourse:Bool
 deriving DecidableEq,Inhabited
def jP (x:Effect):D:=.agg [.int x.sign,.int x.kind,.int x.firm,.int x.binds,.int x.text,.int x.sum,.bool x.recourse]
@[simp] def aBS (x:Effect):(jP x).cells=[.int x.sign,.int x.kind,.int x.firm,.int x.binds,.int x.text,.int x.sum,.bool x.recourse]:=zyz
@[simp] def aGP (x:Effect):D.agg [.int x.sign,.int x.kind,.int x.firm,.int x.binds,.int x.text,.int x.sum,.bool x.recourse]=jP x:=zyz
@[simp] def aBQ (x:Effect):(jP x).c 2=.int x.firm:=zyz
@[simp] def aBR (x:Effect):(jP x).c 5=.int x.sum:=zyz
def oy (l:List Effect):D:=.list (l.map jP)
@[simp] def aEA (l:List Effect):(oy l).l=l.map jP:=zyz
@[simp] def aHZ (a0 x0:D):dg [a0] 0 [x0]=[x0]:=zyz
@[simp] def aH0 (a0 a1 x0 x1:D):dg [a0,a1] 0 [x0,x1]=[x0,x1]:=zyz
@[simp] def aH1 (a0 a1 a2 x0 x1 x2:D):dg [a0,a1,a2] 0 [x0,x1,x2]=[x0,x1,x2]:=zyz
@[simp] def aH2 (a0 a1 a2 a3 x0 x1 x2 x3:D):dg [a0,a1,a2,a3] 0 [x0,x1,x2,x3]=[x0,x1,x2,x3]:=zyz
@[simp] def aH3 (a0 a1 a2 a3 a4 x0 x1 x2 x3 x4:D):dg [a0,a1,a2,a3,a4] 0 [x0,x1,x2,x3,x4]=[x0,x1,x2,x3,x4]:=zyz
@[simp] def aH4 (a0 a1 a2 a3 a4 a5 x0 x1 x2 x3 x4 x5:D):dg [a0,a1,a2,a3,a4,a5] 0 [x0,x1,x2,x3,x4,x5]=[x0,x1,x2,x3,x4,x5]:=zyz
@[simp] def aH5 (a0 a1 a2 a3 a4 a5 a6 x0 x1 x2 x3 x4 x5 x6:D):dg [a0,a1,a2,a3,a4,a5,a6] 0 [x0,x1,x2,x3,x4,x5,x6]=[x0,x1,x2,x3,x4,x5,x6]:=zyz
@[simp] def aH6 (a0 a1 a2 a3 a4 a5 a6 a7 a8 x0 x1 x2 x3 x4 x5 x6 x7 x8:D):dg [a0,a1,a2,a3,a4,a5,a6,a7,a8] 0 [x0,x1,x2,x3,x4,x5,x6,x7,x8]=[x0,x1,x2,x3,x4,x5,x6,x7,x8]:=zyz
end Rm
namespace Rm
open Go Go.Proofs Cx Go.RowKit Go.Lib
set_option maxHeartbeats 1000000 in
def al4 {P:Program}{O:Go.Shelf.Ren}(L:SlLaysE0.n41 P O)(i0:TypeInfo)(z:Value)(size bytes:Nat)(hi:P.info? (O.t 23)=some i0)(tF:i0.zero=some z)(kV:i0.size=size)(Gq:i0.bytes=bytes)(jy:z.cells.size=size)(aI:0<size)
 (z23:∀w,(Go.sizeOf (O.t 23)).run P w=.ok size w) (ad:Addr) (n c:Nat) (news:List Value) (w:World) (hl:news.length=n*size) (hn:n<=maxLen) (LA:n*bytes<=140737488355328)
 (hc:∀j u,news[j]?=some u->w.cell? (ad.add j)=some u) (h1:∀u∈news,u.oneCell'=true):
 Calls P (O.f 41) #[.slice (some ad) n c] w λe w'=>∃v',e=.returned v'/\w'.ownsRow w.heap.size (O.t 23) size v' n news/\Below w.heap.size w w':=by
 have mixed:=L.mixed;have t4:=L.t4;have a4:=L.a4;have z4:=L.z4;have v4:=L.v4;have t22:=L.t22;have a22:=L.a22;have z22:=L.z22;have v22:=L.v22;have q22:∀(w:World) (a:Option Addr) (n c n' c':Nat),(binOp .eql (O.t 22) (.slice a n c) (.slice none n' c')).run P w=.ok (.bool a.isNone) w:=λw a n c n' c'=>Lib.run_eql_slice_nil w _ _ a n c n' c' L.t22;have u22:∀w,Sem.run P (underlying (O.t 22)) w=.ok (TypeDesc.slice (O.t 23)) w:=run_underlying t22;have A:Aside (∀j u,news[j]?=some u->w.cell? (ad.add j)=some u):=hc;clear hc;obtain⟨_,_,FG⟩:=L.f41
 go_enter FG,SlBodyN.n41_ntmps O
 go_wp2_with (at_builtin;refine wpList_append_own _ rfl _ _ (O.t 22) rfl w.heap.size (O.t 23) i0 z size bytes t22 hi tF kV Gq jy aI _ _ _ rfl (World.ownsRow_made w #[] 0 (aX _) (jK _) (by simp)) ad n c news rfl ?qc1 ?qc2 ?qc3 ?qc4 ?qc5 ?qc6 ?_)
 case qc1=>exact hl
 case qc2=>
  intro j u hj;exact Lib.cell?_alloc_some _ (A.out j u hj)
 case qc3=>exact h1
 case qc4=>rw[fw];exact hn
 case qc5=>rw[fw];exact LA
 case qc6=>simp
 intro v' w1 bp eV adG
 go_wp2
 go_ret
 refine⟨v',rfl,by simpa using bp,?_⟩;exact((Below.refl _ w).alloc (aX _) _).grown eV (by simp) (by intro k hk;simp[Value.ownBlock] at hk;omega)
def awL {cap:Nat->Option CSig}{V:Im}{w:World}{e:Ty}{v:Value}{d:D}(ar:V.ok w)(hs:0<e.size)(hu:e.unf=e)(h:Rep cap V (.slice e) v d):
 ∃ys,d=.list ys/\ys.length<=maxLen/\((v=.slice none 0 0/\ys=[])\/∃(ad:Addr) (c:Nat) (news:List Value),v=.slice (some ad) ys.length c/\news.length=ys.length*e.size/\
  (∀j u,news[j]?=some u->w.cell? (ad.add j)=some u)/\dh cap V e news ys):=by
 obtain⟨xs,hd,me⟩:=h.slice_inv;rw[hu] at me;rcases me with⟨⟨p0,aL⟩,rfl⟩|⟨k,o,c,aL,h1,h2,vs,h3,h4⟩
 .cases p0 with
  |none=>exact⟨[],hd,by simp,.inl ⟨aL,rfl⟩⟩
  |some a0=>exact⟨[],hd,by simp,.inr ⟨a0,0,[],aL,by simp,λj u hu=>by simp at hu,λ_=>undef,λi x hx=>by simp at hx,λi j u hi=>by simp at hi⟩⟩
 .refine⟨xs,hd,by omega,.inr ⟨⟨k,o,none⟩,c,(List.range (xs.length*e.size)).map λp=>(vs (p/e.size)).cells.getD (p%e.size) undef,aL,by simp,λj u hu=>?_,vs,h3,λi j u hi hj=>?_⟩⟩
  .simp only[bX,aB] at hu;obtain⟨p,hp,rfl⟩:=hu;have fF:j<xs.length*e.size:=by have:=(eu.1 hp).1;simpa using this
   rw[pz fF] at hp;cases hp;have hi:j/e.size<xs.length:=(vB hs).2 fF;have hq:j%e.size<e.size:=pD _ hs;have bI:=h3 _ _ (aU hi);have aI:=bI.size;have kr:(vs (j/e.size)).cells[j%e.size]?=some ((vs (j/e.size)).cells.getD (j%e.size) undef):=by
        rw[fe,ir (by omega)];rfl
   have:=ar.c _ _ _ (h4 _ _ _ hi kr);rw[sO]
   rwa [show o+j/e.size*e.size+j%e.size=o+j by rw[qU,uq,xU]] at this
  .have bI:=h3 _ _ (aU hi);have bC:j<e.size:=by rw[<-bI.size];exact(ed.1 hj).1
   have af:i*e.size+j<xs.length*e.size:=by
        have:(i+1)*e.size<=xs.length*e.size:=jJ _ hi;rw[jH] at this;omega
   have e1:(i*e.size+j)/e.size=i:=by rw[uq,Nat.mul_add_div hs,Nat.div_eq_of_lt bC];omega
   have e2:(i*e.size+j)%e.size=j:=by rw[Av,aaE,I9 bC]
   simp only[bX,pz af,kj,e1,e2];rw[fe,hj];rfl
def alY {O:Go.Shelf.Ren}(L:SlLaysE0.n41 Tryz.prog O){f:Nat}(hf:O.f 41=f){e:Ty}(hu:e.unf=e)(fY:e.rowT=true\/e.one=true)(hs:0<e.size){i0:TypeInfo}{z:Value}(hi:Tryz.prog.info? (O.t 23)=some i0)(tF:i0.zero=some z)(kV:i0.size=e.size)(Gq:i0.bytes<=100)(jy:z.cells.size=e.size)
 (ds:List D) (d:D) (h:ly ds=some d):ff ctx f ⟨[.slice e],.slice e,.row (O.t 23) e⟩ ds d:=by
 subst hf;unfold ly at h;split at h
 case h_2=>cases h
 rename_i xs;split at h
 case isFalse=>cases h
 rename_i hlen;cases h;intro V w args ar hC ha;obtain⟨a1,a2,a3⟩:=ha;have Fq:=a3 0 _ rfl;obtain⟨v,rfl⟩:∃v,args=#[v]:=by
  have:args.size=1:=by simpa using a1
  match args,this with
  |⟨[v]⟩,_=>exact⟨v,rfl⟩
 simp only[qQ] at Fq;have fin:∀(v':Value) (w':World) (news:List Value),dh ctx.cap V e news xs->w'.ownsRow w.heap.size (O.t 23) e.size v' xs.length news->Below w.heap.size w w'->
  ∃v V',Ending.returned v'=Ending.returned v/\V.le V'/\V'.ok w'/\Below w.heap.size w w'/\(∀k o x,V'.c k o=some x->V.c k o=some x\/w.heap.size<=k)/\(∀k x,V'.m k=some x->V.m k=some x\/w.heap.size<=k)/\lx ctx ⟨[.slice e],.slice e,.row (O.t 23) e⟩ V' w w' v (.list xs):=by
  intro v' w' news cU bp pX;refine⟨v',V,rfl,.refl V,ar.below pX,pX,λ_ _ _ h=>.inl h,λ_ _ h=>.inl h,?_⟩;refine⟨_,xs,rfl,bp,cU,λk hk=>?_⟩;have bf:=(bp.lt k hk).1;refine⟨λo=>?_,?_⟩
  .cases hc:V.c k o with
   |none=>rfl
   |some u=>have:=World.block_lt_of_cell? w (a:=⟨k,o,none⟩) (ar.c _ _ _ hc);simp at this;omega
  .cases hc:V.m k with
   |none=>rfl
   |some u=>have:=(ar.m k u hc).lt;omega
 obtain⟨fc,hx,_,me⟩:=awL ar hs hu Fq;cases hx;rcases me with⟨hv,rfl⟩|⟨ad,c,news,hv,FV,kr,cU⟩
 .have hv:v=.slice none 0 0:=hv;subst hv;refine(AnyE.slices_Clone_nil L 0 0 w).mono λe w' hh=>?_;obtain⟨rfl,rfl⟩:=hh;exact fin _ _ [] ⟨λ_=>undef,by simp,by simp⟩ (World.ownsRow_nil _ _ _ _) (.refl _ _)
 .have hv:v=.slice (some ad) xs.length c:=hv;subst hv;refine(al4 L i0 z e.size i0.bytes hi tF kV rfl jy hs (λw=>by simp[Go.sizeOf,typeInfo,hi,kV]) ad xs.length c news w FV (by unfold maxLen;omega) ?_ kr (ab3 cU FV fY)).mono λe w' hh=>?_
  .have:xs.length*i0.bytes<=4294967296*100:=Aw hlen Gq;omega
  .obtain⟨v',rfl,bp,hb⟩:=hh;exact fin v' w' news cU bp hb
def KV {O:Go.Shelf.Ren}(L:SlLaysE0.n41 Tryz.prog O){f:Nat}(hf:O.f 41=f){e:Ty}(hu:e.unf=e)(fY:e.rowT=true\/e.one=true)(hs:0<e.size){z:Value}{b:Nat}(hi:(Tryz.prog.info? (O.t 23)).map (λi=>(i.zero,i.size,i.bytes))=some (some z,e.size,b))(hb:b<=100)(jy:z.cells.size=e.size)
 (arL:ctx.sig f=some ⟨[.slice e],.slice e,.row (O.t 23) e⟩) (ds:List D) (d:D) (h:ly ds=some d):∃s,ctx.sig f=some s/\ff ctx f s ds d:=by
 obtain⟨i0,h1,h2⟩:=aB.1 hi;simp only[nT] at h2;exact⟨_,arL,alY L hf hu fY hs h1 h2.1 h2.2.1 (by omega) jy ds d h⟩
def al0 (ds:List D)(d:D)(h:ly ds=some d):∃s,ctx.sig 26=some s/\ff ctx 26 s ds d:=KV Tryz.clone26 rfl (e:=O7) (b:=72) (z:=.agg #[.int .i64 0,.int .i64 0,.int .i64 0,.int .i64 0,.int .i64 0,.int .i64 0,.int .i64 0,.int .i64 0,.int .i64 0]) rfl (.inl rfl) (by decide) (by kernel_rfl) (by decide) rfl rfl ds d h
def alV (ds:List D)(d:D)(h:ly ds=some d):∃s,ctx.sig 27=some s/\ff ctx 27 s ds d:=KV Tryz.clone27 rfl (e:=O5) (b:=16) (z:=.agg #[.int .i64 0,.int .i64 0]) rfl (.inl rfl) (by decide) (by kernel_rfl) (by decide) rfl rfl ds d h
def alW (ds:List D)(d:D)(h:ly ds=some d):∃s,ctx.sig 28=some s/\ff ctx 28 s ds d:=KV Tryz.clone28 rfl (e:=O4) (b:=72) (z:=.agg #[.int .i64 0,.int .i64 0,.int .i64 0,.int .i64 0,.int .i64 0,.int .i64 0,.int .i64 0,.int .i64 0,.int .i64 0]) rfl (.inl rfl) (by decide) (by kernel_rfl) (by decide) rfl rfl ds d h
def alX (ds:List D)(d:D)(h:ly ds=some d):∃s,ctx.sig 29=some s/\ff ctx 29 s ds d:=KV Tryz.clone29 rfl (e:=O6) (b:=24) (z:=.agg #[.int .i64 0,.int .i64 0,.int .i64 0]) rfl (.inl rfl) (by decide) (by kernel_rfl) (by decide) rfl rfl ds d h
end Rm
