/-
  What comes in as Lean's own data: realms, files, cases.
-/
import Derived.Test.YtibbcfbmjlehcaaGreatDoorBAI
set_option linter.defProp false
set_option linter.unusedSimpArgs false
set_option linter.unusedVariables false
namespace Rm
open Go Cx
abbrev str (b:ByteArray):D:=.v (.string b)
def strs (l:List ByteArray):D:=.list (l.map str)
@[simp] def axr (l:List ByteArray):(strs l).l=l.map str:=zyz
def str_inv {d:D}(h:DTy .str d):∃b,d=str b:=by
 cases h with
 |str b=>exact⟨b,rfl⟩
 |other t d h=>exact h.elim
def axq {d:D}(h:DTy (.slice .str) d):∃l:List ByteArray,d=strs l/\l.length<=maxLen:=by
 obtain⟨xs,rfl,hm,hx⟩:=h.slice_inv;obtain⟨l,rfl,hl⟩:=ky (enc:=str) (P:=λ_=>True) λx hh=>(str_inv (hx x hh)).imp λb hb=>⟨hb,trivial⟩
 exact⟨l,rfl,by simpa using hm⟩
@[simp] def aCX (t:Tm):(dN t).cells=[.int t.op,.int t.n,.list (t.args.map dN)]:=by rw[EX];rfl
@[simp] def aCY (t:Tm):D.agg [.int t.op,.int t.n,.list (t.args.map dN)]=dN t:=(EX t).symm
@[simp] def aCU (t:Tm):(dN t).c 0=.int t.op:=by rw[EX];rfl
@[simp] def aCV (t:Tm):(dN t).c 1=.int t.n:=by rw[EX];rfl
@[simp] def aCW (t:Tm):(dN t).c 2=.list (t.args.map dN):=by rw[EX];rfl
structure City where
 name:ByteArray
 order:Int
 currency:Int
 rest:List Int
 feasts:List Int
 shut:List Int
 deriving Inhabited
def gP (x:City):D:=.agg [str x.name,.int x.order,.int x.currency,ints x.rest,ints x.feasts,ints x.shut]
@[simp] def aBK (x:City):(gP x).cells=[str x.name,.int x.order,.int x.currency,ints x.rest,ints x.feasts,ints x.shut]:=zyz
@[simp] def aGQ (x:City):D.agg [str x.name,.int x.order,.int x.currency,ints x.rest,ints x.feasts,ints x.shut]=gP x:=zyz
@[simp] def aDF (x:City):kc 6 (gP x)=gP x:=zyz
@[simp] def aBE (x:City):(gP x).c 0=str x.name:=zyz
@[simp] def aBF (x:City):(gP x).c 1=.int x.order:=zyz
@[simp] def aBG (x:City):(gP x).c 2=.int x.currency:=zyz
@[simp] def aBH (x:City):(gP x).c 3=ints x.rest:=zyz
@[simp] def aBI (x:City):(gP x).c 4=ints x.feasts:=zyz
@[simp] def aBJ (x:City):(gP x).c 5=ints x.shut:=zyz
def px (l:List City):D:=.list (l.map gP)
@[simp] def aD6 (l:List City):(px l).l=l.map gP:=zyz
abbrev ZB:Ty:=.agg [.str,.int .i64,.int .i64,.slice (.int .i64),.slice (.int .i64),.slice (.int .i64)]
def City.OK (x:City):Prop:=aZ x.order/\aZ x.currency/\(x.rest.length<=maxLen/\∀y,y∈x.rest->aZ y)/\(x.feasts.length<=maxLen/\∀y,y∈x.feasts->aZ y)/\(x.shut.length<=maxLen/\∀y,y∈x.shut->aZ y)
def alM {d:D}(h:DTy ZB d):∃x:City,d=gP x/\x.OK:=by
 obtain⟨ds,rfl,hs⟩:=h.agg_inv;obtain⟨d0,ds,rfl,h0,hs⟩:=hs.cons_inv;obtain⟨d1,ds,rfl,h1,hs⟩:=hs.cons_inv;obtain⟨d2,ds,rfl,h2,hs⟩:=hs.cons_inv;obtain⟨d3,ds,rfl,h3,hs⟩:=hs.cons_inv;obtain⟨d4,ds,rfl,h4,hs⟩:=hs.cons_inv;obtain⟨d5,ds,rfl,h5,hs⟩:=hs.cons_inv;obtain rfl:=hs.nil_inv;obtain⟨n0,rfl⟩:=str_inv h0;obtain⟨n1,rfl,b1⟩:=h1.i64_inv;obtain⟨n2,rfl,b2⟩:=h2.i64_inv;obtain⟨n3,rfl,b3,c3⟩:=h3.ints_inv;obtain⟨n4,rfl,b4,c4⟩:=h4.ints_inv;obtain⟨n5,rfl,b5,c5⟩:=h5.ints_inv;exact⟨⟨n0,n1,n2,n3,n4,n5⟩,rfl,⟨b1,b2,⟨b3,c3⟩,⟨b4,c4⟩,⟨b5,c5⟩⟩⟩
def alN {d:D}(h:DTy (.slice ZB) d):∃l:List City,d=px l/\l.length<=maxLen/\∀y,y∈l->City.OK y:=by
 obtain⟨xs,rfl,hm,hx⟩:=h.slice_inv;obtain⟨l,rfl,hl⟩:=ky (enc:=gP) (P:=City.OK) λx hh=>alM (hx x hh);exact⟨l,rfl,by simpa using hm,hl⟩
structure Firm where
 name:ByteArray
 city:Int
 group:Int
 deriving Inhabited
def uk (x:Firm):D:=.agg [str x.name,.int x.city,.int x.group]
@[simp] def aB7 (x:Firm):(uk x).cells=[str x.name,.int x.city,.int x.group]:=zyz
@[simp] def aGU (x:Firm):D.agg [str x.name,.int x.city,.int x.group]=uk x:=zyz
@[simp] def aB4 (x:Firm):(uk x).c 0=str x.name:=zyz
@[simp] def aB5 (x:Firm):(uk x).c 1=.int x.city:=zyz
@[simp] def aB6 (x:Firm):(uk x).c 2=.int x.group:=zyz
def firms (l:List Firm):D:=.list (l.map uk)
@[simp] def aFm (l:List Firm):(firms l).l=l.map uk:=zyz
abbrev ZD:Ty:=.agg [.str,.int .i64,.int .i64]
def Firm.OK (x:Firm):Prop:=aZ x.city/\aZ x.group
def anK {d:D}(h:DTy ZD d):∃x:Firm,d=uk x/\x.OK:=by
 obtain⟨ds,rfl,hs⟩:=h.agg_inv;obtain⟨d0,ds,rfl,h0,hs⟩:=hs.cons_inv;obtain⟨d1,ds,rfl,h1,hs⟩:=hs.cons_inv;obtain⟨d2,ds,rfl,h2,hs⟩:=hs.cons_inv;obtain rfl:=hs.nil_inv;obtain⟨n0,rfl⟩:=str_inv h0;obtain⟨n1,rfl,b1⟩:=h1.i64_inv;obtain⟨n2,rfl,b2⟩:=h2.i64_inv;exact⟨⟨n0,n1,n2⟩,rfl,⟨b1,b2⟩⟩
def anL {d:D}(h:DTy (.slice ZD) d):∃l:List Firm,d=firms l/\l.length<=maxLen/\∀y,y∈l->Firm.OK y:=by
 obtain⟨xs,rfl,hm,hx⟩:=h.slice_inv;obtain⟨l,rfl,hl⟩:=ky (enc:=uk) (P:=Firm.OK) λx hh=>anK (hx x hh);exact⟨l,rfl,by simpa using hm,hl⟩
structure Group where
 grade:Int
 deriving DecidableEq,Inhabited
def sJ (x:Group):D:=.agg [.int x.grade]
@[simp] def aB9 (x:Group):(sJ x).cells=[.int x.grade]:=zyz
@[simp] def aGV (x:Group):D.agg [.int x.grade]=sJ x:=zyz
@[simp] def aB8 (x:Group):(sJ x).c 0=.int x.grade:=zyz
def groups (l:List Group):D:=.list (l.map sJ)
@[simp] def aFw (l:List Group):(groups l).l=l.map sJ:=zyz
abbrev ZE:Ty:=.agg [.int .i64]
def Group.OK (x:Group):Prop:=aZ x.grade
def ao6 {d:D}(h:DTy ZE d):∃x:Group,d=sJ x/\x.OK:=by
 obtain⟨ds,rfl,hs⟩:=h.agg_inv;obtain⟨d0,ds,rfl,h0,hs⟩:=hs.cons_inv;obtain rfl:=hs.nil_inv;obtain⟨n0,rfl,b0⟩:=h0.i64_inv;exact⟨⟨n0⟩,rfl,b0⟩
def ao9 {d:D}(h:DTy (.slice ZE) d):∃l:List Group,d=groups l/\l.length<=maxLen/\∀y,y∈l->Group.OK y:=by
 obtain⟨xs,rfl,hm,hx⟩:=h.slice_inv;obtain⟨l,rfl,hl⟩:=ky (enc:=sJ) (P:=Group.OK) λx hh=>ao6 (hx x hh);exact⟨l,rfl,by simpa using hm,hl⟩
structure Usance where
 fr:Int
 to:Int
 days:Int
 deriving DecidableEq,Inhabited
def uq (x:Usance):D:=.agg [.int x.fr,.int x.to,.int x.days]
@[simp] def aC7 (x:Usance):(uq x).cells=[.int x.fr,.int x.to,.int x.days]:=zyz
@[simp] def aG7 (x:Usance):D.agg [.int x.fr,.int x.to,.int x.days]=uq x:=zyz
@[simp] def aC4 (x:Usance):(uq x).c 0=.int x.fr:=zyz
@[simp] def aC5 (x:Usance):(uq x).c 1=.int x.to:=zyz
@[simp] def aC6 (x:Usance):(uq x).c 2=.int x.days:=zyz
def usances (l:List Usance):D:=.list (l.map uq)
@[simp] def aIg (l:List Usance):(usances l).l=l.map uq:=zyz
abbrev ZK:Ty:=.agg [.int .i64,.int .i64,.int .i64]
def Usance.OK (x:Usance):Prop:=aZ x.fr/\aZ x.to/\aZ x.days
def aAm {d:D}(h:DTy ZK d):∃x:Usance,d=uq x/\x.OK:=by
 obtain⟨ds,rfl,hs⟩:=h.agg_inv;obtain⟨d0,ds,rfl,h0,hs⟩:=hs.cons_inv;obtain⟨d1,ds,rfl,h1,hs⟩:=hs.cons_inv;obtain⟨d2,ds,rfl,h2,hs⟩:=hs.cons_inv;obtain rfl:=hs.nil_inv;obtain⟨n0,rfl,b0⟩:=h0.i64_inv;obtain⟨n1,rfl,b1⟩:=h1.i64_inv;obtain⟨n2,rfl,b2⟩:=h2.i64_inv;exact⟨⟨n0,n1,n2⟩,rfl,⟨b0,b1,b2⟩⟩
def aAn {d:D}(h:DTy (.slice ZK) d):∃l:List Usance,d=usances l/\l.length<=maxLen/\∀y,y∈l->Usance.OK y:=by
 obtain⟨xs,rfl,hm,hx⟩:=h.slice_inv;obtain⟨l,rfl,hl⟩:=ky (enc:=uq) (P:=Usance.OK) λx hh=>aAm (hx x hh);exact⟨l,rfl,by simpa using hm,hl⟩
structure Rate where
 fr:Int
 to:Int
 num:Int
 den:Int
 since:Int
 deriving DecidableEq,Inhabited
def q7 (x:Rate):D:=.agg [.int x.fr,.int x.to,.int x.num,.int x.den,.int x.since]
@[simp] def aCr (x:Rate):(q7 x).cells=[.int x.fr,.int x.to,.int x.num,.int x.den,.int x.since]:=zyz
@[simp] def aGZ (x:Rate):D.agg [.int x.fr,.int x.to,.int x.num,.int x.den,.int x.since]=q7 x:=zyz
@[simp] def aCm (x:Rate):(q7 x).c 0=.int x.fr:=zyz
@[simp] def aCn (x:Rate):(q7 x).c 1=.int x.to:=zyz
@[simp] def aCo (x:Rate):(q7 x).c 2=.int x.num:=zyz
@[simp] def aCp (x:Rate):(q7 x).c 3=.int x.den:=zyz
@[simp] def aCq (x:Rate):(q7 x).c 4=.int x.since:=zyz
def rates (l:List Rate):D:=.list (l.map q7)
@[simp] def aHz (l:List Rate):(rates l).l=l.map q7:=zyz
abbrev ZH:Ty:=.agg [.int .i64,.int .i64,.int .i64,.int .i64,.int .i64]
def Rate.OK (x:Rate):Prop:=aZ x.fr/\aZ x.to/\aZ x.num/\aZ x.den/\aZ x.since
def awg {d:D}(h:DTy ZH d):∃x:Rate,d=q7 x/\x.OK:=by
 obtain⟨ds,rfl,hs⟩:=h.agg_inv;obtain⟨d0,ds,rfl,h0,hs⟩:=hs.cons_inv;obtain⟨d1,ds,rfl,h1,hs⟩:=hs.cons_inv;obtain⟨d2,ds,rfl,h2,hs⟩:=hs.cons_inv;obtain⟨d3,ds,rfl,h3,hs⟩:=hs.cons_inv;obtain⟨d4,ds,rfl,h4,hs⟩:=hs.cons_inv;obtain rfl:=hs.nil_inv;obtain⟨n0,rfl,b0⟩:=h0.i64_inv;obtain⟨n1,rfl,b1⟩:=h1.i64_inv;obtain⟨n2,rfl,b2⟩:=h2.i64_inv;obtain⟨n3,rfl,b3⟩:=h3.i64_inv;obtain⟨n4,rfl,b4⟩:=h4.i64_inv;exact⟨⟨n0,n1,n2,n3,n4⟩,rfl,⟨b0,b1,b2,b3,b4⟩⟩
def awh {d:D}(h:DTy (.slice ZH) d):∃l:List Rate,d=rates l/\l.length<=maxLen/\∀y,y∈l->Rate.OK y:=by
 obtain⟨xs,rfl,hm,hx⟩:=h.slice_inv;obtain⟨l,rfl,hl⟩:=ky (enc:=q7) (P:=Rate.OK) λx hh=>awg (hx x hh);exact⟨l,rfl,by simpa using hm,hl⟩
structure Halt where
 order:Int
 fr:Int
 to:Int
 deriving DecidableEq,Inhabited
def um (x:Halt):D:=.agg [.int x.order,.int x.fr,.int x.to]
@[simp] def aCd (x:Halt):(um x).cells=[.int x.order,.int x.fr,.int x.to]:=zyz
@[simp] def aGW (x:Halt):D.agg [.int x.order,.int x.fr,.int x.to]=um x:=zyz
@[simp] def aCa (x:Halt):(um x).c 0=.int x.order:=zyz
@[simp] def aCb (x:Halt):(um x).c 1=.int x.fr:=zyz
@[simp] def aCc (x:Halt):(um x).c 2=.int x.to:=zyz
def halts (l:List Halt):D:=.list (l.map um)
@[simp] def aFI (l:List Halt):(halts l).l=l.map um:=zyz
abbrev ZF:Ty:=.agg [.int .i64,.int .i64,.int .i64]
def Halt.OK (x:Halt):Prop:=aZ x.order/\aZ x.fr/\aZ x.to
def apC {d:D}(h:DTy ZF d):∃x:Halt,d=um x/\x.OK:=by
 obtain⟨ds,rfl,hs⟩:=h.agg_inv;obtain⟨d0,ds,rfl,h0,hs⟩:=hs.cons_inv;obtain⟨d1,ds,rfl,h1,hs⟩:=hs.cons_inv;obtain⟨d2,ds,rfl,h2,hs⟩:=hs.cons_inv;obtain rfl:=hs.nil_inv;obtain⟨n0,rfl,b0⟩:=h0.i64_inv;obtain⟨n1,rfl,b1⟩:=h1.i64_inv;obtain⟨n2,rfl,b2⟩:=h2.i64_inv;exact⟨⟨n0,n1,n2⟩,rfl,⟨b0,b1,b2⟩⟩
def apD {d:D}(h:DTy (.slice ZF) d):∃l:List Halt,d=halts l/\l.length<=maxLen/\∀y,y∈l->Halt.OK y:=by
 obtain⟨xs,rfl,hm,hx⟩:=h.slice_inv;obtain⟨l,rfl,hl⟩:=ky (enc:=um) (P:=Halt.OK) λx hh=>apC (hx x hh);exact⟨l,rfl,by simpa using hm,hl⟩
structure Choice where
 ask:Int
 by_:Int
 whole:Bool
 deriving DecidableEq,Inhabited
def vC (x:Choice):D:=.agg [.int x.ask,.int x.by_,.bool x.whole]
@[simp] def aBD (x:Choice):(vC x).cells=[.int x.ask,.int x.by_,.bool x.whole]:=zyz
@[simp] def aGP (x:Choice):D.agg [.int x.ask,.int x.by_,.bool x.whole]=vC x:=zyz
@[simp] def aBB (x:Choice):(vC x).c 0=.int x.ask:=zyz
@[simp] def aBC (x:Choice):(vC x).c 1=.int x.by_:=zyz
def choices (l:List Choice):D:=.list (l.map vC)
@[simp] def aD5 (l:List Choice):(choices l).l=l.map vC:=zyz
abbrev ZA:Ty:=.agg [.int .i64,.int .i64,.bool]
def Choice.OK (x:Choice):Prop:=aZ x.ask/\aZ x.by_
def alJ {d:D}(h:DTy ZA d):∃x:Choice,d=vC x/\x.OK:=by
 obtain⟨ds,rfl,hs⟩:=h.agg_inv;obtain⟨d0,ds,rfl,h0,hs⟩:=hs.cons_inv;obtain⟨d1,ds,rfl,h1,hs⟩:=hs.cons_inv;obtain⟨d2,ds,rfl,h2,hs⟩:=hs.cons_inv;obtain rfl:=hs.nil_inv;obtain⟨n0,rfl,b0⟩:=h0.i64_inv;obtain⟨n1,rfl,b1⟩:=h1.i64_inv;obtain⟨n2,rfl⟩:=h2.bool_inv;exact⟨⟨n0,n1,n2⟩,rfl,⟨b0,b1⟩⟩
def alK {d:D}(h:DTy (.slice ZA) d):∃l:List Choice,d=choices l/\l.length<=maxLen/\∀y,y∈l->Choice.OK y:=by
 obtain⟨xs,rfl,hm,hx⟩:=h.slice_inv;obtain⟨l,rfl,hl⟩:=ky (enc:=vC) (P:=Choice.OK) λx hh=>alJ (hx x hh);exact⟨l,rfl,by simpa using hm,hl⟩
structure Rule where
 ask:Int
 term:Tm
 deriving Inhabited
def uo (x:Rule):D:=.agg [.int x.ask,.int x.term.op,.int x.term.n,.list (x.term.args.map dN)]
@[simp] def aCF (x:Rule):(uo x).cells=[.int x.ask,.int x.term.op,.int x.term.n,.list (x.term.args.map dN)]:=zyz
@[simp] def aG2 (x:Rule):D.agg [.int x.ask,.int x.term.op,.int x.term.n,.list (x.term.args.map dN)]=uo x:=zyz
@[simp] def aCE (x:Rule):(uo x).c 0=.int x.ask:=zyz
def rules (l:List Rule):D:=.list (l.map uo)
@[simp] def aHG (l:List Rule):(rules l).l=l.map uo:=zyz
abbrev ZI:Ty:=.agg [.int .i64,.int .i64,.int .i64,.slice .trm]
def Rule.OK (x:Rule):Prop:=aZ x.ask/\Tm.OK x.term
def awQ {d:D}(h:DTy ZI d):∃x:Rule,d=uo x/\x.OK:=by
 obtain⟨ds,rfl,hs⟩:=h.agg_inv;obtain⟨d0,ds,rfl,h0,hs⟩:=hs.cons_inv;obtain⟨d1,ds,rfl,h1,hs⟩:=hs.cons_inv;obtain⟨d2,ds,rfl,h2,hs⟩:=hs.cons_inv;obtain⟨d3,ds,rfl,h3,hs⟩:=hs.cons_inv;obtain rfl:=hs.nil_inv;obtain⟨n0,rfl,b0⟩:=h0.i64_inv;obtain⟨n1,rfl,b1⟩:=h1.i64_inv;obtain⟨n2,rfl,b2⟩:=h2.i64_inv;obtain⟨n3,rfl,b3,c3⟩:=h3.trms_inv;exact⟨⟨n0,.mk n1 n2 n3⟩,rfl,⟨b0,.mk _ _ _ b1 b2 b3 c3⟩⟩
def awR {d:D}(h:DTy (.slice ZI) d):∃l:List Rule,d=rules l/\l.length<=maxLen/\∀y,y∈l->Rule.OK y:=by
 obtain⟨xs,rfl,hm,hx⟩:=h.slice_inv;obtain⟨l,rfl,hl⟩:=ky (enc:=uo) (P:=Rule.OK) λx hh=>awQ (hx x hh);exact⟨l,rfl,by simpa using hm,hl⟩
structure Order where
 name:ByteArray
 accepts:Bool
 choices:List Choice
 rules:List Rule
 deriving Inhabited
def kh (x:Order):D:=.agg [str x.name,.bool x.accepts,choices x.choices,rules x.rules]
@[simp] def aCi (x:Order):(kh x).cells=[str x.name,.bool x.accepts,choices x.choices,rules x.rules]:=zyz
@[simp] def aGX (x:Order):D.agg [str x.name,.bool x.accepts,choices x.choices,rules x.rules]=kh x:=zyz
@[simp] def aDH (x:Order):kc 4 (kh x)=kh x:=zyz
@[simp] def aCe (x:Order):(kh x).c 0=str x.name:=zyz
@[simp] def aCf (x:Order):(kh x).c 1=.bool x.accepts:=zyz
@[simp] def aCg (x:Order):(kh x).c 2=choices x.choices:=zyz
@[simp] def aCh (x:Order):(kh x).c 3=rules x.rules:=zyz
def orders (l:List Order):D:=.list (l.map kh)
@[simp] def aHi (l:List Order):(orders l).l=l.map kh:=zyz
abbrev ZG:Ty:=.agg [.str,.bool,.slice ZA,.slice ZI]
def Order.OK (x:Order):Prop:=(x.choices.length<=maxLen/\∀y,y∈x.choices->Choice.OK y)/\(x.rules.length<=maxLen/\∀y,y∈x.rules->Rule.OK y)
def au4 {d:D}(h:DTy ZG d):∃x:Order,d=kh x/\x.OK:=by
 obtain⟨ds,rfl,hs⟩:=h.agg_inv;obtain⟨d0,ds,rfl,h0,hs⟩:=hs.cons_inv;obtain⟨d1,ds,rfl,h1,hs⟩:=hs.cons_inv;obtain⟨d2,ds,rfl,h2,hs⟩:=hs.cons_inv;obtain⟨d3,ds,rfl,h3,hs⟩:=hs.cons_inv;obtain rfl:=hs.nil_inv;obtain⟨n0,rfl⟩:=str_inv h0;obtain⟨n1,rfl⟩:=h1.bool_inv;obtain⟨n2,rfl,b2,c2⟩:=alK h2;obtain⟨n3,rfl,b3,c3⟩:=awR h3;exact⟨⟨n0,n1,n2,n3⟩,rfl,⟨⟨b2,c2⟩,⟨b3,c3⟩⟩⟩
def au5 {d:D}(h:DTy (.slice ZG) d):∃l:List Order,d=orders l/\l.length<=maxLen/\∀y,y∈l->Order.OK y:=by
 obtain⟨xs,rfl,hm,hx⟩:=h.slice_inv;obtain⟨l,rfl,hl⟩:=ky (enc:=kh) (P:=Order.OK) λx hh=>au4 (hx x hh);exact⟨l,rfl,by simpa using hm,hl⟩
structure Realm where
 currencies:List ByteArray
 cities:List City
 groups:List Group
 firms:List Firm
 orders:List Order
 usances:List Usance
 rates:List Rate
 halts:List Halt
 deriving Inhabited
abbrev zzy (x:Realm):List D:=[strs x.currencies,px x.cities,groups x.groups,firms x.firms,orders x.orders,usances x.usances,rates x.rates,halts x.halts]
def aQ (x:Realm):D:=.agg (zzy x)
@[simp] def aCD (x:Realm):(aQ x).cells=(zzy x):=zyz
@[simp] def aG1 (x:Realm):D.agg (zzy x)=aQ x:=zyz
@[simp] def aDI (x:Realm):kc 8 (aQ x)=aQ x:=zyz
@[simp] def aHm (x:Realm)(a0 a1 a2 a3 a4 a5 a6 a7:D):D.agg (dJ [a0,a1,a2,a3,a4,a5,a6,a7] 0 (zzy x))=aQ x:=zyz
@[simp] def aCv (x:Realm):(aQ x).c 0=strs x.currencies:=zyz
@[simp] def aCw (x:Realm):(aQ x).c 1=px x.cities:=zyz
@[simp] def aCx (x:Realm):(aQ x).c 2=groups x.groups:=zyz
@[simp] def aCy (x:Realm):(aQ x).c 3=firms x.firms:=zyz
@[simp] def aCz (x:Realm):(aQ x).c 4=orders x.orders:=zyz
@[simp] def aCA (x:Realm):(aQ x).c 5=usances x.usances:=zyz
@[simp] def aCB (x:Realm):(aQ x).c 6=rates x.rates:=zyz
@[simp] def aCC (x:Realm):(aQ x).c 7=halts x.halts:=zyz
abbrev aAg:Ty:=.agg [.slice .str,.slice ZB,.slice ZE,.slice ZD,.slice ZG,.slice ZK,.slice ZH,.slice ZF]
def Realm.OK (x:Realm):Prop:=x.currencies.length<=maxLen/\(x.cities.length<=maxLen/\∀y,y∈x.cities->City.OK y)/\(x.groups.length<=maxLen/\∀y,y∈x.groups->Group.OK y)/\(x.firms.length<=maxLen/\∀y,y∈x.firms->Firm.OK y)/\(x.orders.length<=maxLen/\∀y,y∈x.orders->Order.OK y)/\(x.usances.length<=maxLen/\∀y,y∈x.usances->Usance.OK y)/\(x.rates.length<=maxLen/\∀y,y∈x.rates->Rate.OK y)/\(x.halts.length<=maxLen/\∀y,y∈x.halts->Halt.OK y)
def aws {d:D}(h:DTy aAg d):∃x:Realm,d=aQ x/\x.OK:=by
 obtain⟨ds,rfl,hs⟩:=h.agg_inv;obtain⟨d0,ds,rfl,h0,hs⟩:=hs.cons_inv;obtain⟨d1,ds,rfl,h1,hs⟩:=hs.cons_inv;obtain⟨d2,ds,rfl,h2,hs⟩:=hs.cons_inv;obtain⟨d3,ds,rfl,h3,hs⟩:=hs.cons_inv;obtain⟨d4,ds,rfl,h4,hs⟩:=hs.cons_inv;obtain⟨d5,ds,rfl,h5,hs⟩:=hs.cons_inv;obtain⟨d6,ds,rfl,h6,hs⟩:=hs.cons_inv;obtain⟨d7,ds,rfl,h7,hs⟩:=hs.cons_inv;obtain rfl:=hs.nil_inv;obtain⟨n0,rfl,b0⟩:=axq h0;obtain⟨n1,rfl,b1,c1⟩:=alN h1;obtain⟨n2,rfl,b2,c2⟩:=ao9 h2;obtain⟨n3,rfl,b3,c3⟩:=anL h3;obtain⟨n4,rfl,b4,c4⟩:=au5 h4;obtain⟨n5,rfl,b5,c5⟩:=aAn h5;obtain⟨n6,rfl,b6,c6⟩:=awh h6;obtain⟨n7,rfl,b7,c7⟩:=apD h7;exact⟨⟨n0,n1,n2,n3,n4,n5,n6,n7⟩,rfl,⟨b0,⟨b1,c1⟩,⟨b2,c2⟩,⟨b3,c3⟩,⟨b4,c4⟩,⟨b5,c5⟩,⟨b6,c6⟩,⟨b7,c7⟩⟩⟩
structure Tenor where
 kind:Int
 n:Int
 unit:Int
 deriving DecidableEq,Inhabited
def py (x:Tenor):D:=.agg [.int x.kind,.int x.n,.int x.unit]
@[simp] def aC2 (x:Tenor):(py x).cells=[.int x.kind,.int x.n,.int x.unit]:=zyz
@[simp] def aG6 (x:Tenor):D.agg [.int x.kind,.int x.n,.int x.unit]=py x:=zyz
@[simp] def aCZ (x:Tenor):(py x).c 0=.int x.kind:=zyz
@[simp] def aC0 (x:Tenor):(py x).c 1=.int x.n:=zyz
@[simp] def aC1 (x:Tenor):(py x).c 2=.int x.unit:=zyz
def Tenor.OK (x:Tenor):Prop:=aZ x.kind/\aZ x.n/\aZ x.unit
structure Bill where
 drawer:Int
 drawee:Int
 payee:Int
 sum:Int
 currency:Int
 tenor:Tenor
 day:Int
 city:Int
 pay:Int
 need:Int
 rate:Int
 flags:Int
 parts:Int
 deriving DecidableEq,Inhabited
abbrev zzz (x:Bill):List D:=[.int x.drawer,.int x.drawee,.int x.payee,.int x.sum,.int x.currency,.int x.tenor.kind,.int x.tenor.n,.int x.tenor.unit,.int x.day,.int x.city,.int x.pay,.int x.need,.int x.rate,.int x.flags,.int x.parts]
def dE (x:Bill):D:=.agg (zzz x)
@[simp] def aBo (x:Bill):(dE x).cells=(zzz x):=zyz
@[simp] def aGM (x:Bill):D.agg (zzz x)=dE x:=zyz
@[simp] def aDE (x:Bill):kc 15 (dE x)=dE x:=zyz
@[simp] def aHj (x:Bill)(a0 a1 a2 a3 a4 a5 a6 a7 a8 a9 qC qD a12 qE qF:D):D.agg (dJ [a0,a1,a2,a3,a4,a5,a6,a7,a8,a9,qC,qD,a12,qE,qF] 0 (zzz x))=dE x:=zyz
@[simp] def aA9 (x:Bill):(dE x).c 0=.int x.drawer:=zyz
@[simp] def aBa (x:Bill):(dE x).c 1=.int x.drawee:=zyz
@[simp] def aBg (x:Bill):(dE x).c 2=.int x.payee:=zyz
@[simp] def aBh (x:Bill):(dE x).c 3=.int x.sum:=zyz
@[simp] def aBi (x:Bill):(dE x).c 4=.int x.currency:=zyz
@[simp] def aBj (x:Bill):(dE x).c 5=.int x.tenor.kind:=zyz
@[simp] def aBk (x:Bill):(dE x).c 6=.int x.tenor.n:=zyz
@[simp] def aBl (x:Bill):(dE x).c 7=.int x.tenor.unit:=zyz
@[simp] def aBm (x:Bill):(dE x).c 8=.int x.day:=zyz
@[simp] def aBn (x:Bill):(dE x).c 9=.int x.city:=zyz
@[simp] def aBb (x:Bill):(dE x).c 10=.int x.pay:=zyz
@[simp] def aBc (x:Bill):(dE x).c 11=.int x.need:=zyz
@[simp] def aBd (x:Bill):(dE x).c 12=.int x.rate:=zyz
@[simp] def aBe (x:Bill):(dE x).c 13=.int x.flags:=zyz
@[simp] def aBf (x:Bill):(dE x).c 14=.int x.parts:=zyz
def Bill.OK (x:Bill):Prop:=aZ x.drawer/\aZ x.drawee/\aZ x.payee/\aZ x.sum/\aZ x.currency/\Tenor.OK x.tenor/\aZ x.day/\aZ x.city/\aZ x.pay/\aZ x.need/\aZ x.rate/\aZ x.flags/\aZ x.parts
structure Sign where
 kind:Int
 part:Int
 who:Int
 for_:Int
 to:Int
 sum:Int
 day:Int
 city:Int
 flags:Int
 deriving DecidableEq,Inhabited
abbrev zzx (x:Sign):List D:=[.int x.kind,.int x.part,.int x.who,.int x.for_,.int x.to,.int x.sum,.int x.day,.int x.city,.int x.flags]
def kL (x:Sign):D:=.agg (zzx x)
@[simp] def aCT (x:Sign):(kL x).cells=(zzx x):=zyz
@[simp] def aG5 (x:Sign):D.agg (zzx x)=kL x:=zyz
@[simp] def aDK (x:Sign):kc 9 (kL x)=kL x:=zyz
@[simp] def aCK (x:Sign):(kL x).c 0=.int x.kind:=zyz
@[simp] def aCL (x:Sign):(kL x).c 1=.int x.part:=zyz
@[simp] def aCM (x:Sign):(kL x).c 2=.int x.who:=zyz
@[simp] def aCN (x:Sign):(kL x).c 3=.int x.for_:=zyz
@[simp] def aCO (x:Sign):(kL x).c 4=.int x.to:=zyz
@[simp] def aCP (x:Sign):(kL x).c 5=.int x.sum:=zyz
@[simp] def aCQ (x:Sign):(kL x).c 6=.int x.day:=zyz
@[simp] def aCR (x:Sign):(kL x).c 7=.int x.city:=zyz
@[simp] def aCS (x:Sign):(kL x).c 8=.int x.flags:=zyz
def signs (l:List Sign):D:=.list (l.map kL)
@[simp] def aHU (l:List Sign):(signs l).l=l.map kL:=zyz
@[simp] def aHT (l:List Sign):(signs l).cells=[signs l]:=zyz
abbrev ZJ:Ty:=.agg [.int .i64,.int .i64,.int .i64,.int .i64,.int .i64,.int .i64,.int .i64,.int .i64,.int .i64]
def Sign.OK (x:Sign):Prop:=aZ x.kind/\aZ x.part/\aZ x.who/\aZ x.for_/\aZ x.to/\aZ x.sum/\aZ x.day/\aZ x.city/\aZ x.flags
def axb {d:D}(h:DTy ZJ d):∃x:Sign,d=kL x/\x.OK:=by
 obtain⟨ds,rfl,hs⟩:=h.agg_inv;obtain⟨d0,ds,rfl,h0,hs⟩:=hs.cons_inv;obtain⟨d1,ds,rfl,h1,hs⟩:=hs.cons_inv;obtain⟨d2,ds,rfl,h2,hs⟩:=hs.cons_inv;obtain⟨d3,ds,rfl,h3,hs⟩:=hs.cons_inv;obtain⟨d4,ds,rfl,h4,hs⟩:=hs.cons_inv;obtain⟨d5,ds,rfl,h5,hs⟩:=hs.cons_inv;obtain⟨d6,ds,rfl,h6,hs⟩:=hs.cons_inv;obtain⟨d7,ds,rfl,h7,hs⟩:=hs.cons_inv;obtain⟨d8,ds,rfl,h8,hs⟩:=hs.cons_inv;obtain rfl:=hs.nil_inv;obtain⟨n0,rfl,b0⟩:=h0.i64_inv;obtain⟨n1,rfl,b1⟩:=h1.i64_inv;obtain⟨n2,rfl,b2⟩:=h2.i64_inv;obtain⟨n3,rfl,b3⟩:=h3.i64_inv;obtain⟨n4,rfl,b4⟩:=h4.i64_inv;obtain⟨n5,rfl,b5⟩:=h5.i64_inv;obtain⟨n6,rfl,b6⟩:=h6.i64_inv;obtain⟨n7,rfl,b7⟩:=h7.i64_inv;obtain⟨n8,rfl,b8⟩:=h8.i64_inv;exact⟨⟨n0,n1,n2,n3,n4,n5,n6,n7,n8⟩,rfl,⟨b0,b1,b2,b3,b4,b5,b6,b7,b8⟩⟩
def axd {d:D}(h:DTy (.slice ZJ) d):∃l:List Sign,d=signs l/\l.length<=maxLen/\∀y,y∈l->Sign.OK y:=by
 obtain⟨xs,rfl,hm,hx⟩:=h.slice_inv;obtain⟨l,rfl,hl⟩:=ky (enc:=kL) (P:=Sign.OK) λx hh=>axb (hx x hh);exact⟨l,rfl,by simpa using hm,hl⟩
structure Alter where
 at_:Int
 sum:Int
 deriving DecidableEq,Inhabited
def q6 (x:Alter):D:=.agg [.int x.at_,.int x.sum]
@[simp] def aA8 (x:Alter):(q6 x).cells=[.int x.at_,.int x.sum]:=zyz
@[simp] def aGL (x:Alter):D.agg [.int x.at_,.int x.sum]=q6 x:=zyz
@[simp] def aA6 (x:Alter):(q6 x).c 0=.int x.at_:=zyz
@[simp] def aA7 (x:Alter):(q6 x).c 1=.int x.sum:=zyz
def alters (l:List Alter):D:=.list (l.map q6)
@[simp] def aDO (l:List Alter):(alters l).l=l.map q6:=zyz
@[simp] def aDN (l:List Alter):(alters l).cells=[alters l]:=zyz
abbrev Zz:Ty:=.agg [.int .i64,.int .i64]
def Alter.OK (x:Alter):Prop:=aZ x.at_/\aZ x.sum
def akI {d:D}(h:DTy Zz d):∃x:Alter,d=q6 x/\x.OK:=by
 obtain⟨ds,rfl,hs⟩:=h.agg_inv;obtain⟨d0,ds,rfl,h0,hs⟩:=hs.cons_inv;obtain⟨d1,ds,rfl,h1,hs⟩:=hs.cons_inv;obtain rfl:=hs.nil_inv;obtain⟨n0,rfl,b0⟩:=h0.i64_inv;obtain⟨n1,rfl,b1⟩:=h1.i64_inv;exact⟨⟨n0,n1⟩,rfl,⟨b0,b1⟩⟩
def akJ {d:D}(h:DTy (.slice Zz) d):∃l:List Alter,d=alters l/\l.length<=maxLen/\∀y,y∈l->Alter.OK y:=by
 obtain⟨xs,rfl,hm,hx⟩:=h.slice_inv;obtain⟨l,rfl,hl⟩:=ky (enc:=q6) (P:=Alter.OK) λx hh=>akI (hx x hh);exact⟨l,rfl,by simpa using hm,hl⟩
structure Act where
 kind:Int
 who:Int
 to:Int
 part:Int
 at_:Int
 sum:Int
 day:Int
 city:Int
 form:Int
 deriving DecidableEq,Inhabited
abbrev zzw (x:Act):List D:=[.int x.kind,.int x.who,.int x.to,.int x.part,.int x.at_,.int x.sum,.int x.day,.int x.city,.int x.form]
def kg (x:Act):D:=.agg (zzw x)
@[simp] def aA5 (x:Act):(kg x).cells=(zzw x):=zyz
@[simp] def aGK (x:Act):D.agg (zzw x)=kg x:=zyz
@[simp] def aDD (x:Act):kc 9 (kg x)=kg x:=zyz
@[simp] def aAW (x:Act):(kg x).c 0=.int x.kind:=zyz
@[simp] def aAX (x:Act):(kg x).c 1=.int x.who:=zyz
@[simp] def aAY (x:Act):(kg x).c 2=.int x.to:=zyz
@[simp] def aAZ (x:Act):(kg x).c 3=.int x.part:=zyz
@[simp] def aA0 (x:Act):(kg x).c 4=.int x.at_:=zyz
@[simp] def aA1 (x:Act):(kg x).c 5=.int x.sum:=zyz
@[simp] def aA2 (x:Act):(kg x).c 6=.int x.day:=zyz
@[simp] def aA3 (x:Act):(kg x).c 7=.int x.city:=zyz
@[simp] def aA4 (x:Act):(kg x).c 8=.int x.form:=zyz
def acts (l:List Act):D:=.list (l.map kg)
@[simp] def aDx (l:List Act):(acts l).l=l.map kg:=zyz
@[simp] def aDw (l:List Act):(acts l).cells=[acts l]:=zyz
abbrev Zy:Ty:=.agg [.int .i64,.int .i64,.int .i64,.int .i64,.int .i64,.int .i64,.int .i64,.int .i64,.int .i64]
def Act.OK (x:Act):Prop:=aZ x.kind/\aZ x.who/\aZ x.to/\aZ x.part/\aZ x.at_/\aZ x.sum/\aZ x.day/\aZ x.city/\aZ x.form
def akA {d:D}(h:DTy Zy d):∃x:Act,d=kg x/\x.OK:=by
 obtain⟨ds,rfl,hs⟩:=h.agg_inv;obtain⟨d0,ds,rfl,h0,hs⟩:=hs.cons_inv;obtain⟨d1,ds,rfl,h1,hs⟩:=hs.cons_inv;obtain⟨d2,ds,rfl,h2,hs⟩:=hs.cons_inv;obtain⟨d3,ds,rfl,h3,hs⟩:=hs.cons_inv;obtain⟨d4,ds,rfl,h4,hs⟩:=hs.cons_inv;obtain⟨d5,ds,rfl,h5,hs⟩:=hs.cons_inv;obtain⟨d6,ds,rfl,h6,hs⟩:=hs.cons_inv;obtain⟨d7,ds,rfl,h7,hs⟩:=hs.cons_inv;obtain⟨d8,ds,rfl,h8,hs⟩:=hs.cons_inv;obtain rfl:=hs.nil_inv;obtain⟨n0,rfl,b0⟩:=h0.i64_inv;obtain⟨n1,rfl,b1⟩:=h1.i64_inv;obtain⟨n2,rfl,b2⟩:=h2.i64_inv;obtain⟨n3,rfl,b3⟩:=h3.i64_inv;obtain⟨n4,rfl,b4⟩:=h4.i64_inv;obtain⟨n5,rfl,b5⟩:=h5.i64_inv;obtain⟨n6,rfl,b6⟩:=h6.i64_inv;obtain⟨n7,rfl,b7⟩:=h7.i64_inv;obtain⟨n8,rfl,b8⟩:=h8.i64_inv;exact⟨⟨n0,n1,n2,n3,n4,n5,n6,n7,n8⟩,rfl,⟨b0,b1,b2,b3,b4,b5,b6,b7,b8⟩⟩
def akB {d:D}(h:DTy (.slice Zy) d):∃l:List Act,d=acts l/\l.length<=maxLen/\∀y,y∈l->Act.OK y:=by
 obtain⟨xs,rfl,hm,hx⟩:=h.slice_inv;obtain⟨l,rfl,hl⟩:=ky (enc:=kg) (P:=Act.OK) λx hh=>akA (hx x hh);exact⟨l,rfl,by simpa using hm,hl⟩
structure Fact where
 kind:Int
 at_:Int
 n:Int
 deriving DecidableEq,Inhabited
def uj (x:Fact):D:=.agg [.int x.kind,.int x.at_,.int x.n]
@[simp] def aBU (x:Fact):(uj x).cells=[.int x.kind,.int x.at_,.int x.n]:=zyz
@[simp] def aGS (x:Fact):D.agg [.int x.kind,.int x.at_,.int x.n]=uj x:=zyz
@[simp] def aBR (x:Fact):(uj x).c 0=.int x.kind:=zyz
@[simp] def aBS (x:Fact):(uj x).c 1=.int x.at_:=zyz
@[simp] def aBT (x:Fact):(uj x).c 2=.int x.n:=zyz
def facts (l:List Fact):D:=.list (l.map uj)
@[simp] def aFk (l:List Fact):(facts l).l=l.map uj:=zyz
@[simp] def aFj (l:List Fact):(facts l).cells=[facts l]:=zyz
abbrev ZC:Ty:=.agg [.int .i64,.int .i64,.int .i64]
def Fact.OK (x:Fact):Prop:=aZ x.kind/\aZ x.at_/\aZ x.n
def anC {d:D}(h:DTy ZC d):∃x:Fact,d=uj x/\x.OK:=by
 obtain⟨ds,rfl,hs⟩:=h.agg_inv;obtain⟨d0,ds,rfl,h0,hs⟩:=hs.cons_inv;obtain⟨d1,ds,rfl,h1,hs⟩:=hs.cons_inv;obtain⟨d2,ds,rfl,h2,hs⟩:=hs.cons_inv;obtain rfl:=hs.nil_inv;obtain⟨n0,rfl,b0⟩:=h0.i64_inv;obtain⟨n1,rfl,b1⟩:=h1.i64_inv;obtain⟨n2,rfl,b2⟩:=h2.i64_inv;exact⟨⟨n0,n1,n2⟩,rfl,⟨b0,b1,b2⟩⟩
def anD {d:D}(h:DTy (.slice ZC) d):∃l:List Fact,d=facts l/\l.length<=maxLen/\∀y,y∈l->Fact.OK y:=by
 obtain⟨xs,rfl,hm,hx⟩:=h.slice_inv;obtain⟨l,rfl,hl⟩:=ky (enc:=uj) (P:=Fact.OK) λx hh=>anC (hx x hh);exact⟨l,rfl,by simpa using hm,hl⟩
structure File where
 bill:Bill
 signs:List Sign
 alters:List Alter
 acts:List Act
 facts:List Fact
 deriving Inhabited
abbrev WP (x:File):List D:=[.int x.bill.drawer,.int x.bill.drawee,.int x.bill.payee,.int x.bill.sum,.int x.bill.currency,.int x.bill.tenor.kind,.int x.bill.tenor.n,.int x.bill.tenor.unit,.int x.bill.day,.int x.bill.city,.int x.bill.pay,.int x.bill.need,.int x.bill.rate,.int x.bill.flags,.int x.bill.parts,signs x.signs,alters x.alters,acts x.acts,facts x.facts]
def cu (x:File):D:=.agg (WP x)
@[simp] def aB3 (x:File):(cu x).cells=(WP x):=zyz
@[simp] def aGT (x:File):D.agg (WP x)=cu x:=zyz
@[simp] def aDG (x:File):kc 19 (cu x)=cu x:=zyz
@[simp] def aHk (x:File)(a0 a1 a2 a3 a4 a5 a6 a7 a8 a9 qC qD a12 qE qF ua ub a17 uc:D):D.agg (dJ [a0,a1,a2,a3,a4,a5,a6,a7,a8,a9,qC,qD,a12,qE,qF,ua,ub,a17,uc] 0 (WP x))=cu x:=zyz
@[simp] def aB0 (x:File):(cu x).c 3=.int x.bill.sum:=zyz
@[simp] def aB1 (x:File):(cu x).c 5=.int x.bill.tenor.kind:=zyz
@[simp] def aB2 (x:File):(cu x).c 8=.int x.bill.day:=zyz
@[simp] def aBV (x:File):(cu x).c 14=.int x.bill.parts:=zyz
@[simp] def aBW (x:File):(cu x).c 15=signs x.signs:=zyz
@[simp] def aBX (x:File):(cu x).c 16=alters x.alters:=zyz
@[simp] def aBY (x:File):(cu x).c 17=acts x.acts:=zyz
@[simp] def aBZ (x:File):(cu x).c 18=facts x.facts:=zyz
abbrev aAe:Ty:=.agg [.int .i64,.int .i64,.int .i64,.int .i64,.int .i64,.int .i64,.int .i64,.int .i64,.int .i64,.int .i64,.int .i64,.int .i64,.int .i64,.int .i64,.int .i64,.slice ZJ,.slice Zz,.slice Zy,.slice ZC]
def File.OK (x:File):Prop:=Bill.OK x.bill/\(x.signs.length<=maxLen/\∀y,y∈x.signs->Sign.OK y)/\(x.alters.length<=maxLen/\∀y,y∈x.alters->Alter.OK y)/\(x.acts.length<=maxLen/\∀y,y∈x.acts->Act.OK y)/\(x.facts.length<=maxLen/\∀y,y∈x.facts->Fact.OK y)
def anE {d:D}(h:DTy aAe d):∃x:File,d=cu x/\x.OK:=by
 obtain⟨ds,rfl,hs⟩:=h.agg_inv;obtain⟨d0,ds,rfl,h0,hs⟩:=hs.cons_inv;obtain⟨d1,ds,rfl,h1,hs⟩:=hs.cons_inv;obtain⟨d2,ds,rfl,h2,hs⟩:=hs.cons_inv;obtain⟨d3,ds,rfl,h3,hs⟩:=hs.cons_inv;obtain⟨d4,ds,rfl,h4,hs⟩:=hs.cons_inv;obtain⟨d5,ds,rfl,h5,hs⟩:=hs.cons_inv;obtain⟨d6,ds,rfl,h6,hs⟩:=hs.cons_inv;obtain⟨d7,ds,rfl,h7,hs⟩:=hs.cons_inv;obtain⟨d8,ds,rfl,h8,hs⟩:=hs.cons_inv;obtain⟨d9,ds,rfl,h9,hs⟩:=hs.cons_inv;obtain⟨d10,ds,rfl,jo,hs⟩:=hs.cons_inv;obtain⟨d11,ds,rfl,uy,hs⟩:=hs.cons_inv;obtain⟨d12,ds,rfl,Rt,hs⟩:=hs.cons_inv;obtain⟨d13,ds,rfl,h13,hs⟩:=hs.cons_inv;obtain⟨d14,ds,rfl,h14,hs⟩:=hs.cons_inv;obtain⟨d15,ds,rfl,K0,hs⟩:=hs.cons_inv;obtain⟨d16,ds,rfl,K1,hs⟩:=hs.cons_inv;obtain⟨d17,ds,rfl,K4,hs⟩:=hs.cons_inv;obtain⟨d18,ds,rfl,K5,hs⟩:=hs.cons_inv;obtain rfl:=hs.nil_inv;obtain⟨n0,rfl,b0⟩:=h0.i64_inv;obtain⟨n1,rfl,b1⟩:=h1.i64_inv;obtain⟨n2,rfl,b2⟩:=h2.i64_inv;obtain⟨n3,rfl,b3⟩:=h3.i64_inv;obtain⟨n4,rfl,b4⟩:=h4.i64_inv;obtain⟨n5,rfl,b5⟩:=h5.i64_inv;obtain⟨n6,rfl,b6⟩:=h6.i64_inv;obtain⟨n7,rfl,b7⟩:=h7.i64_inv;obtain⟨n8,rfl,b8⟩:=h8.i64_inv;obtain⟨n9,rfl,b9⟩:=h9.i64_inv;obtain⟨n10,rfl,b10⟩:=jo.i64_inv;obtain⟨n11,rfl,b11⟩:=uy.i64_inv;obtain⟨n12,rfl,b12⟩:=Rt.i64_inv;obtain⟨n13,rfl,b13⟩:=h13.i64_inv;obtain⟨n14,rfl,b14⟩:=h14.i64_inv;obtain⟨n15,rfl,b15,c15⟩:=axd K0;obtain⟨n16,rfl,b16,c16⟩:=akJ K1;obtain⟨n17,rfl,b17,c17⟩:=akB K4;obtain⟨n18,rfl,b18,c18⟩:=anD K5;exact⟨⟨⟨n0,n1,n2,n3,n4,⟨n5,n6,n7⟩,n8,n9,n10,n11,n12,n13,n14⟩,n15,n16,n17,n18⟩,rfl,⟨⟨b0,b1,b2,b3,b4,⟨b5,b6,b7⟩,b8,b9,b10,b11,b12,b13,b14⟩,⟨b15,c15⟩,⟨b16,c16⟩,⟨b17,c17⟩,⟨b18,c18⟩⟩⟩
structure Case where
 file:File
 sign:Int
 holder:Int
 defence:Int
 due:Int
 day:Int
 deriving Inhabited
def fS (x:Case):D:=.agg [.int x.file.bill.drawer,.int x.file.bill.drawee,.int x.file.bill.payee,.int x.file.bill.sum,.int x.file.bill.currency,.int x.file.bill.tenor.kind,.int x.file.bill.tenor.n,.int x.file.bill.tenor.unit,.int x.file.bill.day,.int x.file.bill.city,.int x.file.bill.pay,.int x.file.bill.need,.int x.file.bill.rate,.int x.file.bill.flags,.int x.file.bill.parts,signs x.file.signs,alters x.file.alters,acts x.file.acts,facts x.file.facts,.int x.sign,.int x.holder,.int x.defence,.int x.due,.int x.day]
@[simp] def aBx (x:Case):(fS x).cells=[.int x.file.bill.drawer,.int x.file.bill.drawee,.int x.file.bill.payee,.int x.file.bill.sum,.int x.file.bill.currency,.int x.file.bill.tenor.kind,.int x.file.bill.tenor.n,.int x.file.bill.tenor.unit,.int x.file.bill.day,.int x.file.bill.city,.int x.file.bill.pay,.int x.file.bill.need,.int x.file.bill.rate,.int x.file.bill.flags,.int x.file.bill.parts,signs x.file.signs,alters x.file.alters,acts x.file.acts,facts x.file.facts,.int x.sign,.int x.holder,.int x.defence,.int x.due,.int x.day]:=zyz
@[simp] def aGN (x:Case):D.agg [.int x.file.bill.drawer,.int x.file.bill.drawee,.int x.file.bill.payee,.int x.file.bill.sum,.int x.file.bill.currency,.int x.file.bill.tenor.kind,.int x.file.bill.tenor.n,.int x.file.bill.tenor.unit,.int x.file.bill.day,.int x.file.bill.city,.int x.file.bill.pay,.int x.file.bill.need,.int x.file.bill.rate,.int x.file.bill.flags,.int x.file.bill.parts,signs x.file.signs,alters x.file.alters,acts x.file.acts,facts x.file.facts,.int x.sign,.int x.holder,.int x.defence,.int x.due,.int x.day]=fS x:=zyz
@[simp] def akH (x:Case):kc 24 (fS x)=fS x:=zyz
@[simp] def au6 (x:Case)(a0 a1 a2 a3 a4 a5 a6 a7 a8 a9 qC qD a12 qE qF ua ub a17 uc Pt a20 a21 a22 a23:D):D.agg (dJ [a0,a1,a2,a3,a4,a5,a6,a7,a8,a9,qC,qD,a12,qE,qF,ua,ub,a17,uc,Pt,a20,a21,a22,a23] 0 [.int x.file.bill.drawer,.int x.file.bill.drawee,.int x.file.bill.payee,.int x.file.bill.sum,.int x.file.bill.currency,.int x.file.bill.tenor.kind,.int x.file.bill.tenor.n,.int x.file.bill.tenor.unit,.int x.file.bill.day,.int x.file.bill.city,.int x.file.bill.pay,.int x.file.bill.need,.int x.file.bill.rate,.int x.file.bill.flags,.int x.file.bill.parts,signs x.file.signs,alters x.file.alters,acts x.file.acts,facts x.file.facts,.int x.sign,.int x.holder,.int x.defence,.int x.due,.int x.day])=fS x:=zyz
@[simp] def aBw (x:Case):(fS x).c 9=.int x.file.bill.city:=zyz
@[simp] def aBp (x:Case):(fS x).c 10=.int x.file.bill.pay:=zyz
@[simp] def aBq (x:Case):(fS x).c 15=signs x.file.signs:=zyz
@[simp] def aBr (x:Case):(fS x).c 19=.int x.sign:=zyz
@[simp] def aBs (x:Case):(fS x).c 20=.int x.holder:=zyz
@[simp] def aBt (x:Case):(fS x).c 21=.int x.defence:=zyz
@[simp] def aBu (x:Case):(fS x).c 22=.int x.due:=zyz
@[simp] def aBv (x:Case):(fS x).c 23=.int x.day:=zyz
def cases(l:List Case):D:=.list (l.map fS)
structure Cell where
 known:Bool
 n:Int
 deriving DecidableEq,Inhabited
def cX (x:Cell):D:=.agg [.bool x.known,.int x.n]
@[simp] def aBA (x:Cell):(cX x).cells=[.bool x.known,.int x.n]:=zyz
@[simp] def aGO (x:Cell):D.agg [.bool x.known,.int x.n]=cX x:=zyz
@[simp] def aBy (x:Cell):(cX x).c 0=.bool x.known:=zyz
@[simp] def aBz (x:Cell):(cX x).c 1=.int x.n:=zyz
def cells (l:List Cell):D:=.list (l.map cX)
@[simp] def aD4 (l:List Cell):(cells l).l=l.map cX:=zyz
@[simp] def aD3 (l:List Cell):(cells l).cells=[cells l]:=zyz
structure Said where
 cell:Cell
 order:Int
 path:List Int
 err:Int
 deriving Inhabited
def q8 (x:Said):D:=.agg [.bool x.cell.known,.int x.cell.n,.int x.order,ints x.path,.int x.err]
@[simp] def aCG (x:Said):(q8 x).cells=[.bool x.cell.known,.int x.cell.n,.int x.order,ints x.path,.int x.err]:=zyz
@[simp] def aG3 (x:Said):D.agg [.bool x.cell.known,.int x.cell.n,.int x.order,ints x.path,.int x.err]=q8 x:=zyz
@[simp] def aDJ (x:Said):kc 5 (q8 x)=q8 x:=zyz
structure Effect where
 sign:Int
 kind:Int
 firm:Int
 binds:Int
 text:Int
 sum:Int
 recourse:Bool
 deriving DecidableEq,Inhabited
def gQ (x:Effect):D:=.agg [.int x.sign,.int x.kind,.int x.firm,.int x.binds,.int x.text,.int x.sum,.bool x.recourse]
@[simp] def aBQ (x:Effect):(gQ x).cells=[.int x.sign,.int x.kind,.int x.firm,.int x.binds,.int x.text,.int x.sum,.bool x.recourse]:=zyz
@[simp] def aGR (x:Effect):D.agg [.int x.sign,.int x.kind,.int x.firm,.int x.binds,.int x.text,.int x.sum,.bool x.recourse]=gQ x:=zyz
@[simp] def aBL (x:Effect):(gQ x).c 1=.int x.kind:=zyz
@[simp] def aBM (x:Effect):(gQ x).c 2=.int x.firm:=zyz
@[simp] def aBN (x:Effect):(gQ x).c 3=.int x.binds:=zyz
@[simp] def aBO (x:Effect):(gQ x).c 5=.int x.sum:=zyz
@[simp] def aBP (x:Effect):(gQ x).c 6=.bool x.recourse:=zyz
def nY (l:List Effect):D:=.list (l.map gQ)
@[simp] def aEy (l:List Effect):(nY l).l=l.map gQ:=zyz
@[simp] def aH5 (a0 x0:D):dJ [a0] 0 [x0]=[x0]:=zyz
@[simp] def aH6 (a0 a1 x0 x1:D):dJ [a0,a1] 0 [x0,x1]=[x0,x1]:=zyz
@[simp] def aH7 (a0 a1 a2 x0 x1 x2:D):dJ [a0,a1,a2] 0 [x0,x1,x2]=[x0,x1,x2]:=zyz
@[simp] def aH8 (a0 a1 a2 a3 x0 x1 x2 x3:D):dJ [a0,a1,a2,a3] 0 [x0,x1,x2,x3]=[x0,x1,x2,x3]:=zyz
@[simp] def aH9 (a0 a1 a2 a3 a4 x0 x1 x2 x3 x4:D):dJ [a0,a1,a2,a3,a4] 0 [x0,x1,x2,x3,x4]=[x0,x1,x2,x3,x4]:=zyz
@[simp] def aIa (a0 a1 a2 a3 a4 a5 x0 x1 x2 x3 x4 x5:D):dJ [a0,a1,a2,a3,a4,a5] 0 [x0,x1,x2,x3,x4,x5]=[x0,x1,x2,x3,x4,x5]:=zyz
@[simp] def aIb (a0 a1 a2 a3 a4 a5 a6 x0 x1 x2 x3 x4 x5 x6:D):dJ [a0,a1,a2,a3,a4,a5,a6] 0 [x0,x1,x2,x3,x4,x5,x6]=[x0,x1,x2,x3,x4,x5,x6]:=zyz
@[simp] def aIc (a0 a1 a2 a3 a4 a5 a6 a7 a8 x0 x1 x2 x3 x4 x5 x6 x7 x8:D):dJ [a0,a1,a2,a3,a4,a5,a6,a7,a8] 0 [x0,x1,x2,x3,x4,x5,x6,x7,x8]=[x0,x1,x2,x3,x4,x5,x6,x7,x8]:=zyz
end Rm
