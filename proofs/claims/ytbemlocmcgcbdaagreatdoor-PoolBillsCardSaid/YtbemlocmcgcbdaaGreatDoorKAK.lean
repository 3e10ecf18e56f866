/-
  What comes in as Lean's own data: realms, files, cases.
-/
import Derived.Test.YtbemlocmcgcbdaaGreatDoorKAI
set_option linter.defProp false
set_option linter.unusedSimpArgs false
set_option linter.unusedVariables false
namespace Rm
open Go Cx
abbrev str (b:ByteArray):D:=.v (.string b)
def strs (l:List ByteArray):D:=.list (l.map str)
@[simp] def aAO (l:List ByteArray):(strs l).l=l.map str:=zyz
def str_inv {d:D}(h:DTy .str d):∃b,d=str b:=by
 cases h with
 |str b=>exact⟨b,rfl⟩
 |other t d h=>exact h.elim
def aAN {d:D}(h:DTy (.slice .str) d):∃l:List ByteArray,d=strs l/\l.length<=maxLen:=by
 obtain⟨xs,rfl,hm,hx⟩:=h.slice_inv;obtain⟨l,rfl,hl⟩:=kz (enc:=str) (P:=λ_=>True) λx hh=>(str_inv (hx x hh)).imp λb hb=>⟨hb,trivial⟩
 exact⟨l,rfl,by simpa using hm⟩
@[simp] def aGv (t:Tm):(dL t).cells=[.int t.op,.int t.n,.list (t.args.map dL)]:=by rw[Fq];rfl
@[simp] def aGw (t:Tm):D.agg [.int t.op,.int t.n,.list (t.args.map dL)]=dL t:=(Fq t).symm
@[simp] def aGs (t:Tm):(dL t).c 0=.int t.op:=by rw[Fq];rfl
@[simp] def aGt (t:Tm):(dL t).c 1=.int t.n:=by rw[Fq];rfl
@[simp] def aGu (t:Tm):(dL t).c 2=.list (t.args.map dL):=by rw[Fq];rfl
structure City where
 name:ByteArray
 order:Int
 currency:Int
 rest:List Int
 feasts:List Int
 shut:List Int
 deriving Inhabited
def gX (x:City):D:=.agg [str x.name,.int x.order,.int x.currency,ints x.rest,ints x.feasts,ints x.shut]
@[simp] def aFl (x:City):(gX x).cells=[str x.name,.int x.order,.int x.currency,ints x.rest,ints x.feasts,ints x.shut]:=zyz
@[simp] def aKl (x:City):D.agg [str x.name,.int x.order,.int x.currency,ints x.rest,ints x.feasts,ints x.shut]=gX x:=zyz
@[simp] def aHd (x:City):kg 6 (gX x)=gX x:=zyz
@[simp] def aFf (x:City):(gX x).c 0=str x.name:=zyz
@[simp] def aFg (x:City):(gX x).c 1=.int x.order:=zyz
@[simp] def aFh (x:City):(gX x).c 2=.int x.currency:=zyz
@[simp] def aFi (x:City):(gX x).c 3=ints x.rest:=zyz
@[simp] def aFj (x:City):(gX x).c 4=ints x.feasts:=zyz
@[simp] def aFk (x:City):(gX x).c 5=ints x.shut:=zyz
def sJ (l:List City):D:=.list (l.map gX)
@[simp] def aHE (l:List City):(sJ l).l=l.map gX:=zyz
abbrev aaw:Ty:=.agg [.str,.int .i64,.int .i64,.slice (.int .i64),.slice (.int .i64),.slice (.int .i64)]
def City.OK (x:City):Prop:=aX x.order/\aX x.currency/\(x.rest.length<=maxLen/\∀y,y∈x.rest->aX y)/\(x.feasts.length<=maxLen/\∀y,y∈x.feasts->aX y)/\(x.shut.length<=maxLen/\∀y,y∈x.shut->aX y)
def ang {d:D}(h:DTy aaw d):∃x:City,d=gX x/\x.OK:=by
 obtain⟨ds,rfl,hs⟩:=h.agg_inv;obtain⟨d0,ds,rfl,h0,hs⟩:=hs.cons_inv;obtain⟨d1,ds,rfl,h1,hs⟩:=hs.cons_inv;obtain⟨d2,ds,rfl,h2,hs⟩:=hs.cons_inv;obtain⟨d3,ds,rfl,h3,hs⟩:=hs.cons_inv;obtain⟨d4,ds,rfl,h4,hs⟩:=hs.cons_inv;obtain⟨d5,ds,rfl,h5,hs⟩:=hs.cons_inv;obtain rfl:=hs.nil_inv;obtain⟨n0,rfl⟩:=str_inv h0;obtain⟨n1,rfl,b1⟩:=h1.i64_inv;obtain⟨n2,rfl,b2⟩:=h2.i64_inv;obtain⟨n3,rfl,b3,c3⟩:=h3.ints_inv;obtain⟨n4,rfl,b4,c4⟩:=h4.ints_inv;obtain⟨n5,rfl,b5,c5⟩:=h5.ints_inv;exact⟨⟨n0,n1,n2,n3,n4,n5⟩,rfl,⟨b1,b2,⟨b3,c3⟩,⟨b4,c4⟩,⟨b5,c5⟩⟩⟩
def anh {d:D}(h:DTy (.slice aaw) d):∃l:List City,d=sJ l/\l.length<=maxLen/\∀y,y∈l->City.OK y:=by
 obtain⟨xs,rfl,hm,hx⟩:=h.slice_inv;obtain⟨l,rfl,hl⟩:=kz (enc:=gX) (P:=City.OK) λx hh=>ang (hx x hh);exact⟨l,rfl,by simpa using hm,hl⟩
structure Firm where
 name:ByteArray
 city:Int
 group:Int
 deriving Inhabited
def uC (x:Firm):D:=.agg [str x.name,.int x.city,.int x.group]
@[simp] def aFF (x:Firm):(uC x).cells=[str x.name,.int x.city,.int x.group]:=zyz
@[simp] def aKp (x:Firm):D.agg [str x.name,.int x.city,.int x.group]=uC x:=zyz
@[simp] def aFC (x:Firm):(uC x).c 0=str x.name:=zyz
@[simp] def aFD (x:Firm):(uC x).c 1=.int x.city:=zyz
@[simp] def aFE (x:Firm):(uC x).c 2=.int x.group:=zyz
def firms (l:List Firm):D:=.list (l.map uC)
@[simp] def aIT (l:List Firm):(firms l).l=l.map uC:=zyz
abbrev aay:Ty:=.agg [.str,.int .i64,.int .i64]
def Firm.OK (x:Firm):Prop:=aX x.city/\aX x.group
def aph {d:D}(h:DTy aay d):∃x:Firm,d=uC x/\x.OK:=by
 obtain⟨ds,rfl,hs⟩:=h.agg_inv;obtain⟨d0,ds,rfl,h0,hs⟩:=hs.cons_inv;obtain⟨d1,ds,rfl,h1,hs⟩:=hs.cons_inv;obtain⟨d2,ds,rfl,h2,hs⟩:=hs.cons_inv;obtain rfl:=hs.nil_inv;obtain⟨n0,rfl⟩:=str_inv h0;obtain⟨n1,rfl,b1⟩:=h1.i64_inv;obtain⟨n2,rfl,b2⟩:=h2.i64_inv;exact⟨⟨n0,n1,n2⟩,rfl,⟨b1,b2⟩⟩
def api {d:D}(h:DTy (.slice aay) d):∃l:List Firm,d=firms l/\l.length<=maxLen/\∀y,y∈l->Firm.OK y:=by
 obtain⟨xs,rfl,hm,hx⟩:=h.slice_inv;obtain⟨l,rfl,hl⟩:=kz (enc:=uC) (P:=Firm.OK) λx hh=>aph (hx x hh);exact⟨l,rfl,by simpa using hm,hl⟩
structure Group where
 grade:Int
 deriving DecidableEq,Inhabited
def sO (x:Group):D:=.agg [.int x.grade]
@[simp] def aFH (x:Group):(sO x).cells=[.int x.grade]:=zyz
@[simp] def aKq (x:Group):D.agg [.int x.grade]=sO x:=zyz
@[simp] def aFG (x:Group):(sO x).c 0=.int x.grade:=zyz
def groups (l:List Group):D:=.list (l.map sO)
@[simp] def aI1 (l:List Group):(groups l).l=l.map sO:=zyz
abbrev aaz:Ty:=.agg [.int .i64]
def Group.OK (x:Group):Prop:=aX x.grade
def aqK {d:D}(h:DTy aaz d):∃x:Group,d=sO x/\x.OK:=by
 obtain⟨ds,rfl,hs⟩:=h.agg_inv;obtain⟨d0,ds,rfl,h0,hs⟩:=hs.cons_inv;obtain rfl:=hs.nil_inv;obtain⟨n0,rfl,b0⟩:=h0.i64_inv;exact⟨⟨n0⟩,rfl,b0⟩
def aqM {d:D}(h:DTy (.slice aaz) d):∃l:List Group,d=groups l/\l.length<=maxLen/\∀y,y∈l->Group.OK y:=by
 obtain⟨xs,rfl,hm,hx⟩:=h.slice_inv;obtain⟨l,rfl,hl⟩:=kz (enc:=sO) (P:=Group.OK) λx hh=>aqK (hx x hh);exact⟨l,rfl,by simpa using hm,hl⟩
structure Usance where
 fr:Int
 to:Int
 days:Int
 deriving DecidableEq,Inhabited
def uF (x:Usance):D:=.agg [.int x.fr,.int x.to,.int x.days]
@[simp] def aGF (x:Usance):(uF x).cells=[.int x.fr,.int x.to,.int x.days]:=zyz
@[simp] def aKC (x:Usance):D.agg [.int x.fr,.int x.to,.int x.days]=uF x:=zyz
@[simp] def aGC (x:Usance):(uF x).c 0=.int x.fr:=zyz
@[simp] def aGD (x:Usance):(uF x).c 1=.int x.to:=zyz
@[simp] def aGE (x:Usance):(uF x).c 2=.int x.days:=zyz
def usances (l:List Usance):D:=.list (l.map uF)
@[simp] def aLF (l:List Usance):(usances l).l=l.map uF:=zyz
abbrev aaF:Ty:=.agg [.int .i64,.int .i64,.int .i64]
def Usance.OK (x:Usance):Prop:=aX x.fr/\aX x.to/\aX x.days
def aD2 {d:D}(h:DTy aaF d):∃x:Usance,d=uF x/\x.OK:=by
 obtain⟨ds,rfl,hs⟩:=h.agg_inv;obtain⟨d0,ds,rfl,h0,hs⟩:=hs.cons_inv;obtain⟨d1,ds,rfl,h1,hs⟩:=hs.cons_inv;obtain⟨d2,ds,rfl,h2,hs⟩:=hs.cons_inv;obtain rfl:=hs.nil_inv;obtain⟨n0,rfl,b0⟩:=h0.i64_inv;obtain⟨n1,rfl,b1⟩:=h1.i64_inv;obtain⟨n2,rfl,b2⟩:=h2.i64_inv;exact⟨⟨n0,n1,n2⟩,rfl,⟨b0,b1,b2⟩⟩
def aD3 {d:D}(h:DTy (.slice aaF) d):∃l:List Usance,d=usances l/\l.length<=maxLen/\∀y,y∈l->Usance.OK y:=by
 obtain⟨xs,rfl,hm,hx⟩:=h.slice_inv;obtain⟨l,rfl,hl⟩:=kz (enc:=uF) (P:=Usance.OK) λx hh=>aD2 (hx x hh);exact⟨l,rfl,by simpa using hm,hl⟩
structure Rate where
 fr:Int
 to:Int
 num:Int
 den:Int
 since:Int
 deriving DecidableEq,Inhabited
def q8 (x:Rate):D:=.agg [.int x.fr,.int x.to,.int x.num,.int x.den,.int x.since]
@[simp] def aFZ (x:Rate):(q8 x).cells=[.int x.fr,.int x.to,.int x.num,.int x.den,.int x.since]:=zyz
@[simp] def aKu (x:Rate):D.agg [.int x.fr,.int x.to,.int x.num,.int x.den,.int x.since]=q8 x:=zyz
@[simp] def aFU (x:Rate):(q8 x).c 0=.int x.fr:=zyz
@[simp] def aFV (x:Rate):(q8 x).c 1=.int x.to:=zyz
@[simp] def aFW (x:Rate):(q8 x).c 2=.int x.num:=zyz
@[simp] def aFX (x:Rate):(q8 x).c 3=.int x.den:=zyz
@[simp] def aFY (x:Rate):(q8 x).c 4=.int x.since:=zyz
def rates (l:List Rate):D:=.list (l.map q8)
@[simp] def aKY (l:List Rate):(rates l).l=l.map q8:=zyz
abbrev aaC:Ty:=.agg [.int .i64,.int .i64,.int .i64,.int .i64,.int .i64]
def Rate.OK (x:Rate):Prop:=aX x.fr/\aX x.to/\aX x.num/\aX x.den/\aX x.since
def azm {d:D}(h:DTy aaC d):∃x:Rate,d=q8 x/\x.OK:=by
 obtain⟨ds,rfl,hs⟩:=h.agg_inv;obtain⟨d0,ds,rfl,h0,hs⟩:=hs.cons_inv;obtain⟨d1,ds,rfl,h1,hs⟩:=hs.cons_inv;obtain⟨d2,ds,rfl,h2,hs⟩:=hs.cons_inv;obtain⟨d3,ds,rfl,h3,hs⟩:=hs.cons_inv;obtain⟨d4,ds,rfl,h4,hs⟩:=hs.cons_inv;obtain rfl:=hs.nil_inv;obtain⟨n0,rfl,b0⟩:=h0.i64_inv;obtain⟨n1,rfl,b1⟩:=h1.i64_inv;obtain⟨n2,rfl,b2⟩:=h2.i64_inv;obtain⟨n3,rfl,b3⟩:=h3.i64_inv;obtain⟨n4,rfl,b4⟩:=h4.i64_inv;exact⟨⟨n0,n1,n2,n3,n4⟩,rfl,⟨b0,b1,b2,b3,b4⟩⟩
def azn {d:D}(h:DTy (.slice aaC) d):∃l:List Rate,d=rates l/\l.length<=maxLen/\∀y,y∈l->Rate.OK y:=by
 obtain⟨xs,rfl,hm,hx⟩:=h.slice_inv;obtain⟨l,rfl,hl⟩:=kz (enc:=q8) (P:=Rate.OK) λx hh=>azm (hx x hh);exact⟨l,rfl,by simpa using hm,hl⟩
structure Halt where
 order:Int
 fr:Int
 to:Int
 deriving DecidableEq,Inhabited
def uD (x:Halt):D:=.agg [.int x.order,.int x.fr,.int x.to]
@[simp] def aFL (x:Halt):(uD x).cells=[.int x.order,.int x.fr,.int x.to]:=zyz
@[simp] def aKr (x:Halt):D.agg [.int x.order,.int x.fr,.int x.to]=uD x:=zyz
@[simp] def aFI (x:Halt):(uD x).c 0=.int x.order:=zyz
@[simp] def aFJ (x:Halt):(uD x).c 1=.int x.fr:=zyz
@[simp] def aFK (x:Halt):(uD x).c 2=.int x.to:=zyz
def halts (l:List Halt):D:=.list (l.map uD)
@[simp] def aJe (l:List Halt):(halts l).l=l.map uD:=zyz
abbrev aaA:Ty:=.agg [.int .i64,.int .i64,.int .i64]
def Halt.OK (x:Halt):Prop:=aX x.order/\aX x.fr/\aX x.to
def arh {d:D}(h:DTy aaA d):∃x:Halt,d=uD x/\x.OK:=by
 obtain⟨ds,rfl,hs⟩:=h.agg_inv;obtain⟨d0,ds,rfl,h0,hs⟩:=hs.cons_inv;obtain⟨d1,ds,rfl,h1,hs⟩:=hs.cons_inv;obtain⟨d2,ds,rfl,h2,hs⟩:=hs.cons_inv;obtain rfl:=hs.nil_inv;obtain⟨n0,rfl,b0⟩:=h0.i64_inv;obtain⟨n1,rfl,b1⟩:=h1.i64_inv;obtain⟨n2,rfl,b2⟩:=h2.i64_inv;exact⟨⟨n0,n1,n2⟩,rfl,⟨b0,b1,b2⟩⟩
def ari {d:D}(h:DTy (.slice aaA) d):∃l:List Halt,d=halts l/\l.length<=maxLen/\∀y,y∈l->Halt.OK y:=by
 obtain⟨xs,rfl,hm,hx⟩:=h.slice_inv;obtain⟨l,rfl,hl⟩:=kz (enc:=uD) (P:=Halt.OK) λx hh=>arh (hx x hh);exact⟨l,rfl,by simpa using hm,hl⟩
structure Choice where
 ask:Int
 by_:Int
 whole:Bool
 deriving DecidableEq,Inhabited
def vU (x:Choice):D:=.agg [.int x.ask,.int x.by_,.bool x.whole]
@[simp] def aFe (x:Choice):(vU x).cells=[.int x.ask,.int x.by_,.bool x.whole]:=zyz
@[simp] def aKk (x:Choice):D.agg [.int x.ask,.int x.by_,.bool x.whole]=vU x:=zyz
@[simp] def aFc (x:Choice):(vU x).c 0=.int x.ask:=zyz
@[simp] def aFd (x:Choice):(vU x).c 1=.int x.by_:=zyz
def choices (l:List Choice):D:=.list (l.map vU)
@[simp] def aHD (l:List Choice):(choices l).l=l.map vU:=zyz
abbrev aav:Ty:=.agg [.int .i64,.int .i64,.bool]
def Choice.OK (x:Choice):Prop:=aX x.ask/\aX x.by_
def anc {d:D}(h:DTy aav d):∃x:Choice,d=vU x/\x.OK:=by
 obtain⟨ds,rfl,hs⟩:=h.agg_inv;obtain⟨d0,ds,rfl,h0,hs⟩:=hs.cons_inv;obtain⟨d1,ds,rfl,h1,hs⟩:=hs.cons_inv;obtain⟨d2,ds,rfl,h2,hs⟩:=hs.cons_inv;obtain rfl:=hs.nil_inv;obtain⟨n0,rfl,b0⟩:=h0.i64_inv;obtain⟨n1,rfl,b1⟩:=h1.i64_inv;obtain⟨n2,rfl⟩:=h2.bool_inv;exact⟨⟨n0,n1,n2⟩,rfl,⟨b0,b1⟩⟩
def ane {d:D}(h:DTy (.slice aav) d):∃l:List Choice,d=choices l/\l.length<=maxLen/\∀y,y∈l->Choice.OK y:=by
 obtain⟨xs,rfl,hm,hx⟩:=h.slice_inv;obtain⟨l,rfl,hl⟩:=kz (enc:=vU) (P:=Choice.OK) λx hh=>anc (hx x hh);exact⟨l,rfl,by simpa using hm,hl⟩
structure Rule where
 ask:Int
 term:Tm
 deriving Inhabited
def uE (x:Rule):D:=.agg [.int x.ask,.int x.term.op,.int x.term.n,.list (x.term.args.map dL)]
@[simp] def aGd (x:Rule):(uE x).cells=[.int x.ask,.int x.term.op,.int x.term.n,.list (x.term.args.map dL)]:=zyz
@[simp] def aKx (x:Rule):D.agg [.int x.ask,.int x.term.op,.int x.term.n,.list (x.term.args.map dL)]=uE x:=zyz
@[simp] def aGc (x:Rule):(uE x).c 0=.int x.ask:=zyz
def rules (l:List Rule):D:=.list (l.map uE)
@[simp] def aK4 (l:List Rule):(rules l).l=l.map uE:=zyz
abbrev aaD:Ty:=.agg [.int .i64,.int .i64,.int .i64,.slice .trm]
def Rule.OK (x:Rule):Prop:=aX x.ask/\Tm.OK x.term
def aAa {d:D}(h:DTy aaD d):∃x:Rule,d=uE x/\x.OK:=by
 obtain⟨ds,rfl,hs⟩:=h.agg_inv;obtain⟨d0,ds,rfl,h0,hs⟩:=hs.cons_inv;obtain⟨d1,ds,rfl,h1,hs⟩:=hs.cons_inv;obtain⟨d2,ds,rfl,h2,hs⟩:=hs.cons_inv;obtain⟨d3,ds,rfl,h3,hs⟩:=hs.cons_inv;obtain rfl:=hs.nil_inv;obtain⟨n0,rfl,b0⟩:=h0.i64_inv;obtain⟨n1,rfl,b1⟩:=h1.i64_inv;obtain⟨n2,rfl,b2⟩:=h2.i64_inv;obtain⟨n3,rfl,b3,c3⟩:=h3.trms_inv;exact⟨⟨n0,.mk n1 n2 n3⟩,rfl,⟨b0,.mk _ _ _ b1 b2 b3 c3⟩⟩
def aAb {d:D}(h:DTy (.slice aaD) d):∃l:List Rule,d=rules l/\l.length<=maxLen/\∀y,y∈l->Rule.OK y:=by
 obtain⟨xs,rfl,hm,hx⟩:=h.slice_inv;obtain⟨l,rfl,hl⟩:=kz (enc:=uE) (P:=Rule.OK) λx hh=>aAa (hx x hh);exact⟨l,rfl,by simpa using hm,hl⟩
structure Order where
 name:ByteArray
 accepts:Bool
 choices:List Choice
 rules:List Rule
 deriving Inhabited
def kj (x:Order):D:=.agg [str x.name,.bool x.accepts,choices x.choices,rules x.rules]
@[simp] def aFQ (x:Order):(kj x).cells=[str x.name,.bool x.accepts,choices x.choices,rules x.rules]:=zyz
@[simp] def aKs (x:Order):D.agg [str x.name,.bool x.accepts,choices x.choices,rules x.rules]=kj x:=zyz
@[simp] def aHf (x:Order):kg 4 (kj x)=kj x:=zyz
@[simp] def aFM (x:Order):(kj x).c 0=str x.name:=zyz
@[simp] def aFN (x:Order):(kj x).c 1=.bool x.accepts:=zyz
@[simp] def aFO (x:Order):(kj x).c 2=choices x.choices:=zyz
@[simp] def aFP (x:Order):(kj x).c 3=rules x.rules:=zyz
def orders (l:List Order):D:=.list (l.map kj)
@[simp] def aKK (l:List Order):(orders l).l=l.map kj:=zyz
abbrev aaB:Ty:=.agg [.str,.bool,.slice aav,.slice aaD]
def Order.OK (x:Order):Prop:=(x.choices.length<=maxLen/\∀y,y∈x.choices->Choice.OK y)/\(x.rules.length<=maxLen/\∀y,y∈x.rules->Rule.OK y)
def ax5 {d:D}(h:DTy aaB d):∃x:Order,d=kj x/\x.OK:=by
 obtain⟨ds,rfl,hs⟩:=h.agg_inv;obtain⟨d0,ds,rfl,h0,hs⟩:=hs.cons_inv;obtain⟨d1,ds,rfl,h1,hs⟩:=hs.cons_inv;obtain⟨d2,ds,rfl,h2,hs⟩:=hs.cons_inv;obtain⟨d3,ds,rfl,h3,hs⟩:=hs.cons_inv;obtain rfl:=hs.nil_inv;obtain⟨n0,rfl⟩:=str_inv h0;obtain⟨n1,rfl⟩:=h1.bool_inv;obtain⟨n2,rfl,b2,c2⟩:=ane h2;obtain⟨n3,rfl,b3,c3⟩:=aAb h3;exact⟨⟨n0,n1,n2,n3⟩,rfl,⟨⟨b2,c2⟩,⟨b3,c3⟩⟩⟩
def ax6 {d:D}(h:DTy (.slice aaB) d):∃l:List Order,d=orders l/\l.length<=maxLen/\∀y,y∈l->Order.OK y:=by
 obtain⟨xs,rfl,hm,hx⟩:=h.slice_inv;obtain⟨l,rfl,hl⟩:=kz (enc:=kj) (P:=Order.OK) λx hh=>ax5 (hx x hh);exact⟨l,rfl,by simpa using hm,hl⟩
structure Realm where
 currencies:List ByteArray
 cities:List City
 groups:List Group
 firms:List Firm
 orders:List Order
 usances:List Usance
 rates:List Rate
 halts:List Halt
 deriving Inhabited
abbrev zzy (x:Realm):List D:=[strs x.currencies,sJ x.cities,groups x.groups,firms x.firms,orders x.orders,usances x.usances,rates x.rates,halts x.halts]
def aV (x:Realm):D:=.agg (zzy x)
@[simp] def aGb (x:Realm):(aV x).cells=(zzy x):=zyz
@[simp] def aKw (x:Realm):D.agg (zzy x)=aV x:=zyz
@[simp] def aHg (x:Realm):kg 8 (aV x)=aV x:=zyz
@[simp] def aF3 (x:Realm):(aV x).c 0=strs x.currencies:=zyz
@[simp] def aF4 (x:Realm):(aV x).c 1=sJ x.cities:=zyz
@[simp] def aF5 (x:Realm):(aV x).c 2=groups x.groups:=zyz
@[simp] def aF6 (x:Realm):(aV x).c 3=firms x.firms:=zyz
@[simp] def aF7 (x:Realm):(aV x).c 4=orders x.orders:=zyz
@[simp] def aF8 (x:Realm):(aV x).c 5=usances x.usances:=zyz
@[simp] def aF9 (x:Realm):(aV x).c 6=rates x.rates:=zyz
@[simp] def aGa (x:Realm):(aV x).c 7=halts x.halts:=zyz
abbrev aDW:Ty:=.agg [.slice .str,.slice aaw,.slice aaz,.slice aay,.slice aaB,.slice aaF,.slice aaC,.slice aaA]
def Realm.OK (x:Realm):Prop:=x.currencies.length<=maxLen/\(x.cities.length<=maxLen/\∀y,y∈x.cities->City.OK y)/\(x.groups.length<=maxLen/\∀y,y∈x.groups->Group.OK y)/\(x.firms.length<=maxLen/\∀y,y∈x.firms->Firm.OK y)/\(x.orders.length<=maxLen/\∀y,y∈x.orders->Order.OK y)/\(x.usances.length<=maxLen/\∀y,y∈x.usances->Usance.OK y)/\(x.rates.length<=maxLen/\∀y,y∈x.rates->Rate.OK y)/\(x.halts.length<=maxLen/\∀y,y∈x.halts->Halt.OK y)
def azK {d:D}(h:DTy aDW d):∃x:Realm,d=aV x/\x.OK:=by
 obtain⟨ds,rfl,hs⟩:=h.agg_inv;obtain⟨d0,ds,rfl,h0,hs⟩:=hs.cons_inv;obtain⟨d1,ds,rfl,h1,hs⟩:=hs.cons_inv;obtain⟨d2,ds,rfl,h2,hs⟩:=hs.cons_inv;obtain⟨d3,ds,rfl,h3,hs⟩:=hs.cons_inv;obtain⟨d4,ds,rfl,h4,hs⟩:=hs.cons_inv;obtain⟨d5,ds,rfl,h5,hs⟩:=hs.cons_inv;obtain⟨d6,ds,rfl,h6,hs⟩:=hs.cons_inv;obtain⟨d7,ds,rfl,h7,hs⟩:=hs.cons_inv;obtain rfl:=hs.nil_inv;obtain⟨n0,rfl,b0⟩:=aAN h0;obtain⟨n1,rfl,b1,c1⟩:=anh h1;obtain⟨n2,rfl,b2,c2⟩:=aqM h2;obtain⟨n3,rfl,b3,c3⟩:=api h3;obtain⟨n4,rfl,b4,c4⟩:=ax6 h4;obtain⟨n5,rfl,b5,c5⟩:=aD3 h5;obtain⟨n6,rfl,b6,c6⟩:=azn h6;obtain⟨n7,rfl,b7,c7⟩:=ari h7;exact⟨⟨n0,n1,n2,n3,n4,n5,n6,n7⟩,rfl,⟨b0,⟨b1,c1⟩,⟨b2,c2⟩,⟨b3,c3⟩,⟨b4,c4⟩,⟨b5,c5⟩,⟨b6,c6⟩,⟨b7,c7⟩⟩⟩
structure Tenor where
 kind:Int
 n:Int
 unit:Int
 deriving DecidableEq,Inhabited
def pH (x:Tenor):D:=.agg [.int x.kind,.int x.n,.int x.unit]
@[simp] def aGA (x:Tenor):(pH x).cells=[.int x.kind,.int x.n,.int x.unit]:=zyz
@[simp] def aKB (x:Tenor):D.agg [.int x.kind,.int x.n,.int x.unit]=pH x:=zyz
@[simp] def aGx (x:Tenor):(pH x).c 0=.int x.kind:=zyz
@[simp] def aGy (x:Tenor):(pH x).c 1=.int x.n:=zyz
@[simp] def aGz (x:Tenor):(pH x).c 2=.int x.unit:=zyz
def Tenor.OK (x:Tenor):Prop:=aX x.kind/\aX x.n/\aX x.unit
structure Bill where
 drawer:Int
 drawee:Int
 payee:Int
 sum:Int
 currency:Int
 tenor:Tenor
 day:Int
 city:Int
 pay:Int
 need:Int
 rate:Int
 flags:Int
 parts:Int
 deriving DecidableEq,Inhabited
abbrev zzz (x:Bill):List D:=[.int x.drawer,.int x.drawee,.int x.payee,.int x.sum,.int x.currency,.int x.tenor.kind,.int x.tenor.n,.int x.tenor.unit,.int x.day,.int x.city,.int x.pay,.int x.need,.int x.rate,.int x.flags,.int x.parts]
def ed (x:Bill):D:=.agg (zzz x)
@[simp] def aEZ (x:Bill):(ed x).cells=(zzz x):=zyz
@[simp] def aKh (x:Bill):D.agg (zzz x)=ed x:=zyz
@[simp] def aHc (x:Bill):kg 15 (ed x)=ed x:=zyz
@[simp] def aKL (x:Bill)(a0 a1 a2 a3 a4 a5 a6 a7 a8 a9 mJ mK a12 mL mM:D):D.agg (dI [a0,a1,a2,a3,a4,a5,a6,a7,a8,a9,mJ,mK,a12,mL,mM] 0 (zzz x))=ed x:=zyz
@[simp] def aEK (x:Bill):(ed x).c 0=.int x.drawer:=zyz
@[simp] def aEL (x:Bill):(ed x).c 1=.int x.drawee:=zyz
@[simp] def aER (x:Bill):(ed x).c 2=.int x.payee:=zyz
@[simp] def aES (x:Bill):(ed x).c 3=.int x.sum:=zyz
@[simp] def aET (x:Bill):(ed x).c 4=.int x.currency:=zyz
@[simp] def aEU (x:Bill):(ed x).c 5=.int x.tenor.kind:=zyz
@[simp] def aEV (x:Bill):(ed x).c 6=.int x.tenor.n:=zyz
@[simp] def aEW (x:Bill):(ed x).c 7=.int x.tenor.unit:=zyz
@[simp] def aEX (x:Bill):(ed x).c 8=.int x.day:=zyz
@[simp] def aEY (x:Bill):(ed x).c 9=.int x.city:=zyz
@[simp] def aEM (x:Bill):(ed x).c 10=.int x.pay:=zyz
@[simp] def aEN (x:Bill):(ed x).c 11=.int x.need:=zyz
@[simp] def aEO (x:Bill):(ed x).c 12=.int x.rate:=zyz
@[simp] def aEP (x:Bill):(ed x).c 13=.int x.flags:=zyz
@[simp] def aEQ (x:Bill):(ed x).c 14=.int x.parts:=zyz
def Bill.OK (x:Bill):Prop:=aX x.drawer/\aX x.drawee/\aX x.payee/\aX x.sum/\aX x.currency/\Tenor.OK x.tenor/\aX x.day/\aX x.city/\aX x.pay/\aX x.need/\aX x.rate/\aX x.flags/\aX x.parts
structure Sign where
 kind:Int
 part:Int
 who:Int
 for_:Int
 to:Int
 sum:Int
 day:Int
 city:Int
 flags:Int
 deriving DecidableEq,Inhabited
abbrev zzx (x:Sign):List D:=[.int x.kind,.int x.part,.int x.who,.int x.for_,.int x.to,.int x.sum,.int x.day,.int x.city,.int x.flags]
def kL (x:Sign):D:=.agg (zzx x)
@[simp] def aGr (x:Sign):(kL x).cells=(zzx x):=zyz
@[simp] def aKA (x:Sign):D.agg (zzx x)=kL x:=zyz
@[simp] def aHi (x:Sign):kg 9 (kL x)=kL x:=zyz
@[simp] def aGi (x:Sign):(kL x).c 0=.int x.kind:=zyz
@[simp] def aGj (x:Sign):(kL x).c 1=.int x.part:=zyz
@[simp] def aGk (x:Sign):(kL x).c 2=.int x.who:=zyz
@[simp] def aGl (x:Sign):(kL x).c 3=.int x.for_:=zyz
@[simp] def aGm (x:Sign):(kL x).c 4=.int x.to:=zyz
@[simp] def aGn (x:Sign):(kL x).c 5=.int x.sum:=zyz
@[simp] def aGo (x:Sign):(kL x).c 6=.int x.day:=zyz
@[simp] def aGp (x:Sign):(kL x).c 7=.int x.city:=zyz
@[simp] def aGq (x:Sign):(kL x).c 8=.int x.flags:=zyz
def signs (l:List Sign):D:=.list (l.map kL)
@[simp] def aLi (l:List Sign):(signs l).l=l.map kL:=zyz
@[simp] def aLh (l:List Sign):(signs l).cells=[signs l]:=zyz
abbrev aaE:Ty:=.agg [.int .i64,.int .i64,.int .i64,.int .i64,.int .i64,.int .i64,.int .i64,.int .i64,.int .i64]
def Sign.OK (x:Sign):Prop:=aX x.kind/\aX x.part/\aX x.who/\aX x.for_/\aX x.to/\aX x.sum/\aX x.day/\aX x.city/\aX x.flags
def aAy {d:D}(h:DTy aaE d):∃x:Sign,d=kL x/\x.OK:=by
 obtain⟨ds,rfl,hs⟩:=h.agg_inv;obtain⟨d0,ds,rfl,h0,hs⟩:=hs.cons_inv;obtain⟨d1,ds,rfl,h1,hs⟩:=hs.cons_inv;obtain⟨d2,ds,rfl,h2,hs⟩:=hs.cons_inv;obtain⟨d3,ds,rfl,h3,hs⟩:=hs.cons_inv;obtain⟨d4,ds,rfl,h4,hs⟩:=hs.cons_inv;obtain⟨d5,ds,rfl,h5,hs⟩:=hs.cons_inv;obtain⟨d6,ds,rfl,h6,hs⟩:=hs.cons_inv;obtain⟨d7,ds,rfl,h7,hs⟩:=hs.cons_inv;obtain⟨d8,ds,rfl,h8,hs⟩:=hs.cons_inv;obtain rfl:=hs.nil_inv;obtain⟨n0,rfl,b0⟩:=h0.i64_inv;obtain⟨n1,rfl,b1⟩:=h1.i64_inv;obtain⟨n2,rfl,b2⟩:=h2.i64_inv;obtain⟨n3,rfl,b3⟩:=h3.i64_inv;obtain⟨n4,rfl,b4⟩:=h4.i64_inv;obtain⟨n5,rfl,b5⟩:=h5.i64_inv;obtain⟨n6,rfl,b6⟩:=h6.i64_inv;obtain⟨n7,rfl,b7⟩:=h7.i64_inv;obtain⟨n8,rfl,b8⟩:=h8.i64_inv;exact⟨⟨n0,n1,n2,n3,n4,n5,n6,n7,n8⟩,rfl,⟨b0,b1,b2,b3,b4,b5,b6,b7,b8⟩⟩
def aAA {d:D}(h:DTy (.slice aaE) d):∃l:List Sign,d=signs l/\l.length<=maxLen/\∀y,y∈l->Sign.OK y:=by
 obtain⟨xs,rfl,hm,hx⟩:=h.slice_inv;obtain⟨l,rfl,hl⟩:=kz (enc:=kL) (P:=Sign.OK) λx hh=>aAy (hx x hh);exact⟨l,rfl,by simpa using hm,hl⟩
structure Alter where
 at_:Int
 sum:Int
 deriving DecidableEq,Inhabited
def q5 (x:Alter):D:=.agg [.int x.at_,.int x.sum]
@[simp] def aEJ (x:Alter):(q5 x).cells=[.int x.at_,.int x.sum]:=zyz
@[simp] def aKg (x:Alter):D.agg [.int x.at_,.int x.sum]=q5 x:=zyz
@[simp] def aEH (x:Alter):(q5 x).c 0=.int x.at_:=zyz
@[simp] def aEI (x:Alter):(q5 x).c 1=.int x.sum:=zyz
def alters (l:List Alter):D:=.list (l.map q5)
@[simp] def aHm (l:List Alter):(alters l).l=l.map q5:=zyz
@[simp] def aHl (l:List Alter):(alters l).cells=[alters l]:=zyz
abbrev aau:Ty:=.agg [.int .i64,.int .i64]
def Alter.OK (x:Alter):Prop:=aX x.at_/\aX x.sum
def alI {d:D}(h:DTy aau d):∃x:Alter,d=q5 x/\x.OK:=by
 obtain⟨ds,rfl,hs⟩:=h.agg_inv;obtain⟨d0,ds,rfl,h0,hs⟩:=hs.cons_inv;obtain⟨d1,ds,rfl,h1,hs⟩:=hs.cons_inv;obtain rfl:=hs.nil_inv;obtain⟨n0,rfl,b0⟩:=h0.i64_inv;obtain⟨n1,rfl,b1⟩:=h1.i64_inv;exact⟨⟨n0,n1⟩,rfl,⟨b0,b1⟩⟩
def alJ {d:D}(h:DTy (.slice aau) d):∃l:List Alter,d=alters l/\l.length<=maxLen/\∀y,y∈l->Alter.OK y:=by
 obtain⟨xs,rfl,hm,hx⟩:=h.slice_inv;obtain⟨l,rfl,hl⟩:=kz (enc:=q5) (P:=Alter.OK) λx hh=>alI (hx x hh);exact⟨l,rfl,by simpa using hm,hl⟩
structure Act where
 kind:Int
 who:Int
 to:Int
 part:Int
 at_:Int
 sum:Int
 day:Int
 city:Int
 form:Int
 deriving DecidableEq,Inhabited
abbrev zzw (x:Act):List D:=[.int x.kind,.int x.who,.int x.to,.int x.part,.int x.at_,.int x.sum,.int x.day,.int x.city,.int x.form]
def ki (x:Act):D:=.agg (zzw x)
@[simp] def aEG (x:Act):(ki x).cells=(zzw x):=zyz
@[simp] def aKf (x:Act):D.agg (zzw x)=ki x:=zyz
@[simp] def aHb (x:Act):kg 9 (ki x)=ki x:=zyz
@[simp] def aEx (x:Act):(ki x).c 0=.int x.kind:=zyz
@[simp] def aEy (x:Act):(ki x).c 1=.int x.who:=zyz
@[simp] def aEz (x:Act):(ki x).c 2=.int x.to:=zyz
@[simp] def aEA (x:Act):(ki x).c 3=.int x.part:=zyz
@[simp] def aEB (x:Act):(ki x).c 4=.int x.at_:=zyz
@[simp] def aEC (x:Act):(ki x).c 5=.int x.sum:=zyz
@[simp] def aED (x:Act):(ki x).c 6=.int x.day:=zyz
@[simp] def aEE (x:Act):(ki x).c 7=.int x.city:=zyz
@[simp] def aEF (x:Act):(ki x).c 8=.int x.form:=zyz
def acts (l:List Act):D:=.list (l.map ki)
@[simp] def aG5 (l:List Act):(acts l).l=l.map ki:=zyz
@[simp] def aG4 (l:List Act):(acts l).cells=[acts l]:=zyz
abbrev aat:Ty:=.agg [.int .i64,.int .i64,.int .i64,.int .i64,.int .i64,.int .i64,.int .i64,.int .i64,.int .i64]
def Act.OK (x:Act):Prop:=aX x.kind/\aX x.who/\aX x.to/\aX x.part/\aX x.at_/\aX x.sum/\aX x.day/\aX x.city/\aX x.form
def aly {d:D}(h:DTy aat d):∃x:Act,d=ki x/\x.OK:=by
 obtain⟨ds,rfl,hs⟩:=h.agg_inv;obtain⟨d0,ds,rfl,h0,hs⟩:=hs.cons_inv;obtain⟨d1,ds,rfl,h1,hs⟩:=hs.cons_inv;obtain⟨d2,ds,rfl,h2,hs⟩:=hs.cons_inv;obtain⟨d3,ds,rfl,h3,hs⟩:=hs.cons_inv;obtain⟨d4,ds,rfl,h4,hs⟩:=hs.cons_inv;obtain⟨d5,ds,rfl,h5,hs⟩:=hs.cons_inv;obtain⟨d6,ds,rfl,h6,hs⟩:=hs.cons_inv;obtain⟨d7,ds,rfl,h7,hs⟩:=hs.cons_inv;obtain⟨d8,ds,rfl,h8,hs⟩:=hs.cons_inv;obtain rfl:=hs.nil_inv;obtain⟨n0,rfl,b0⟩:=h0.i64_inv;obtain⟨n1,rfl,b1⟩:=h1.i64_inv;obtain⟨n2,rfl,b2⟩:=h2.i64_inv;obtain⟨n3,rfl,b3⟩:=h3.i64_inv;obtain⟨n4,rfl,b4⟩:=h4.i64_inv;obtain⟨n5,rfl,b5⟩:=h5.i64_inv;obtain⟨n6,rfl,b6⟩:=h6.i64_inv;obtain⟨n7,rfl,b7⟩:=h7.i64_inv;obtain⟨n8,rfl,b8⟩:=h8.i64_inv;exact⟨⟨n0,n1,n2,n3,n4,n5,n6,n7,n8⟩,rfl,⟨b0,b1,b2,b3,b4,b5,b6,b7,b8⟩⟩
def alz {d:D}(h:DTy (.slice aat) d):∃l:List Act,d=acts l/\l.length<=maxLen/\∀y,y∈l->Act.OK y:=by
 obtain⟨xs,rfl,hm,hx⟩:=h.slice_inv;obtain⟨l,rfl,hl⟩:=kz (enc:=ki) (P:=Act.OK) λx hh=>aly (hx x hh);exact⟨l,rfl,by simpa using hm,hl⟩
structure Fact where
 kind:Int
 at_:Int
 n:Int
 deriving DecidableEq,Inhabited
def sN (x:Fact):D:=.agg [.int x.kind,.int x.at_,.int x.n]
@[simp] def aFs (x:Fact):(sN x).cells=[.int x.kind,.int x.at_,.int x.n]:=zyz
@[simp] def aKn (x:Fact):D.agg [.int x.kind,.int x.at_,.int x.n]=sN x:=zyz
@[simp] def aFp (x:Fact):(sN x).c 0=.int x.kind:=zyz
@[simp] def aFq (x:Fact):(sN x).c 1=.int x.at_:=zyz
@[simp] def aFr (x:Fact):(sN x).c 2=.int x.n:=zyz
def facts (l:List Fact):D:=.list (l.map sN)
@[simp] def aIR (l:List Fact):(facts l).l=l.map sN:=zyz
@[simp] def aIQ (l:List Fact):(facts l).cells=[facts l]:=zyz
abbrev aax:Ty:=.agg [.int .i64,.int .i64,.int .i64]
def Fact.OK (x:Fact):Prop:=aX x.kind/\aX x.at_/\aX x.n
def ao9 {d:D}(h:DTy aax d):∃x:Fact,d=sN x/\x.OK:=by
 obtain⟨ds,rfl,hs⟩:=h.agg_inv;obtain⟨d0,ds,rfl,h0,hs⟩:=hs.cons_inv;obtain⟨d1,ds,rfl,h1,hs⟩:=hs.cons_inv;obtain⟨d2,ds,rfl,h2,hs⟩:=hs.cons_inv;obtain rfl:=hs.nil_inv;obtain⟨n0,rfl,b0⟩:=h0.i64_inv;obtain⟨n1,rfl,b1⟩:=h1.i64_inv;obtain⟨n2,rfl,b2⟩:=h2.i64_inv;exact⟨⟨n0,n1,n2⟩,rfl,⟨b0,b1,b2⟩⟩
def ada {d:D}(h:DTy (.slice aax) d):∃l:List Fact,d=facts l/\l.length<=maxLen/\∀y,y∈l->Fact.OK y:=by
 obtain⟨xs,rfl,hm,hx⟩:=h.slice_inv;obtain⟨l,rfl,hl⟩:=kz (enc:=sN) (P:=Fact.OK) λx hh=>ao9 (hx x hh);exact⟨l,rfl,by simpa using hm,hl⟩
structure File where
 bill:Bill
 signs:List Sign
 alters:List Alter
 acts:List Act
 facts:List Fact
 deriving Inhabited
abbrev WP (x:File):List D:=[.int x.bill.drawer,.int x.bill.drawee,.int x.bill.payee,.int x.bill.sum,.int x.bill.currency,.int x.bill.tenor.kind,.int x.bill.tenor.n,.int x.bill.tenor.unit,.int x.bill.day,.int x.bill.city,.int x.bill.pay,.int x.bill.need,.int x.bill.rate,.int x.bill.flags,.int x.bill.parts,signs x.signs,alters x.alters,acts x.acts,facts x.facts]
def cr (x:File):D:=.agg (WP x)
@[simp] def aFB (x:File):(cr x).cells=(WP x):=zyz
@[simp] def aKo (x:File):D.agg (WP x)=cr x:=zyz
@[simp] def aHe (x:File):kg 19 (cr x)=cr x:=zyz
@[simp] def aKM (x:File)(a0 a1 a2 a3 a4 a5 a6 a7 a8 a9 mJ mK a12 mL mM pA pB a17 qH:D):D.agg (dI [a0,a1,a2,a3,a4,a5,a6,a7,a8,a9,mJ,mK,a12,mL,mM,pA,pB,a17,qH] 0 (WP x))=cr x:=zyz
@[simp] def aFy (x:File):(cr x).c 3=.int x.bill.sum:=zyz
@[simp] def aFz (x:File):(cr x).c 5=.int x.bill.tenor.kind:=zyz
@[simp] def aFA (x:File):(cr x).c 8=.int x.bill.day:=zyz
@[simp] def aFt (x:File):(cr x).c 14=.int x.bill.parts:=zyz
@[simp] def aFu (x:File):(cr x).c 15=signs x.signs:=zyz
@[simp] def aFv (x:File):(cr x).c 16=alters x.alters:=zyz
@[simp] def aFw (x:File):(cr x).c 17=acts x.acts:=zyz
@[simp] def aFx (x:File):(cr x).c 18=facts x.facts:=zyz
abbrev aDU:Ty:=.agg [.int .i64,.int .i64,.int .i64,.int .i64,.int .i64,.int .i64,.int .i64,.int .i64,.int .i64,.int .i64,.int .i64,.int .i64,.int .i64,.int .i64,.int .i64,.slice aaE,.slice aau,.slice aat,.slice aax]
def File.OK (x:File):Prop:=Bill.OK x.bill/\(x.signs.length<=maxLen/\∀y,y∈x.signs->Sign.OK y)/\(x.alters.length<=maxLen/\∀y,y∈x.alters->Alter.OK y)/\(x.acts.length<=maxLen/\∀y,y∈x.acts->Act.OK y)/\(x.facts.length<=maxLen/\∀y,y∈x.facts->Fact.OK y)
def apb {d:D}(h:DTy aDU d):∃x:File,d=cr x/\x.OK:=by
 obtain⟨ds,rfl,hs⟩:=h.agg_inv;obtain⟨d0,ds,rfl,h0,hs⟩:=hs.cons_inv;obtain⟨d1,ds,rfl,h1,hs⟩:=hs.cons_inv;obtain⟨d2,ds,rfl,h2,hs⟩:=hs.cons_inv;obtain⟨d3,ds,rfl,h3,hs⟩:=hs.cons_inv;obtain⟨d4,ds,rfl,h4,hs⟩:=hs.cons_inv;obtain⟨d5,ds,rfl,h5,hs⟩:=hs.cons_inv;obtain⟨d6,ds,rfl,h6,hs⟩:=hs.cons_inv;obtain⟨d7,ds,rfl,h7,hs⟩:=hs.cons_inv;obtain⟨d8,ds,rfl,h8,hs⟩:=hs.cons_inv;obtain⟨d9,ds,rfl,h9,hs⟩:=hs.cons_inv;obtain⟨d10,ds,rfl,jt,hs⟩:=hs.cons_inv;obtain⟨d11,ds,rfl,uJ,hs⟩:=hs.cons_inv;obtain⟨d12,ds,rfl,RN,hs⟩:=hs.cons_inv;obtain⟨d13,ds,rfl,h13,hs⟩:=hs.cons_inv;obtain⟨d14,ds,rfl,h14,hs⟩:=hs.cons_inv;obtain⟨d15,ds,rfl,Lw,hs⟩:=hs.cons_inv;obtain⟨d16,ds,rfl,Lx,hs⟩:=hs.cons_inv;obtain⟨d17,ds,rfl,Ly,hs⟩:=hs.cons_inv;obtain⟨d18,ds,rfl,Lz,hs⟩:=hs.cons_inv;obtain rfl:=hs.nil_inv;obtain⟨n0,rfl,b0⟩:=h0.i64_inv;obtain⟨n1,rfl,b1⟩:=h1.i64_inv;obtain⟨n2,rfl,b2⟩:=h2.i64_inv;obtain⟨n3,rfl,b3⟩:=h3.i64_inv;obtain⟨n4,rfl,b4⟩:=h4.i64_inv;obtain⟨n5,rfl,b5⟩:=h5.i64_inv;obtain⟨n6,rfl,b6⟩:=h6.i64_inv;obtain⟨n7,rfl,b7⟩:=h7.i64_inv;obtain⟨n8,rfl,b8⟩:=h8.i64_inv;obtain⟨n9,rfl,b9⟩:=h9.i64_inv;obtain⟨n10,rfl,b10⟩:=jt.i64_inv;obtain⟨n11,rfl,b11⟩:=uJ.i64_inv;obtain⟨n12,rfl,b12⟩:=RN.i64_inv;obtain⟨n13,rfl,b13⟩:=h13.i64_inv;obtain⟨n14,rfl,b14⟩:=h14.i64_inv;obtain⟨n15,rfl,b15,c15⟩:=aAA Lw;obtain⟨n16,rfl,b16,c16⟩:=alJ Lx;obtain⟨n17,rfl,b17,c17⟩:=alz Ly;obtain⟨n18,rfl,b18,c18⟩:=ada Lz;exact⟨⟨⟨n0,n1,n2,n3,n4,⟨n5,n6,n7⟩,n8,n9,n10,n11,n12,n13,n14⟩,n15,n16,n17,n18⟩,rfl,⟨⟨b0,b1,b2,b3,b4,⟨b5,b6,b7⟩,b8,b9,b10,b11,b12,b13,b14⟩,⟨b15,c15⟩,⟨b16,c16⟩,⟨b17,c17⟩,⟨b18,c18⟩⟩⟩
structure Case where
 file:File
 sign:Int
 holder:Int
 defence:Int
 due:Int
 day:Int
 deriving Inhabited
def fV (x:Case):D:=.agg [.int x.file.bill.drawer,.int x.file.bill.drawee,.int x.file.bill.payee,.int x.file.bill.sum,.int x.file.bill.currency,.int x.file.bill.tenor.kind,.int x.file.bill.tenor.n,.int x.file.bill.tenor.unit,.int x.file.bill.day,.int x.file.bill.city,.int x.file.bill.pay,.int x.file.bill.need,.int x.file.bill.rate,.int x.file.bill.flags,.int x.file.bill.parts,signs x.file.signs,alters x.file.alters,acts x.file.acts,facts x.file.facts,.int x.sign,.int x.holder,.int x.defence,.int x.due,.int x.day]
@[simp] def aE8 (x:Case):(fV x).cells=[.int x.file.bill.drawer,.int x.file.bill.drawee,.int x.file.bill.payee,.int x.file.bill.sum,.int x.file.bill.currency,.int x.file.bill.tenor.kind,.int x.file.bill.tenor.n,.int x.file.bill.tenor.unit,.int x.file.bill.day,.int x.file.bill.city,.int x.file.bill.pay,.int x.file.bill.need,.int x.file.bill.rate,.int x.file.bill.flags,.int x.file.bill.parts,signs x.file.signs,alters x.file.alters,acts x.file.acts,facts x.file.facts,.int x.sign,.int x.holder,.int x.defence,.int x.due,.int x.day]:=zyz
@[simp] def aKi (x:Case):D.agg [.int x.file.bill.drawer,.int x.file.bill.drawee,.int x.file.bill.payee,.int x.file.bill.sum,.int x.file.bill.currency,.int x.file.bill.tenor.kind,.int x.file.bill.tenor.n,.int x.file.bill.tenor.unit,.int x.file.bill.day,.int x.file.bill.city,.int x.file.bill.pay,.int x.file.bill.need,.int x.file.bill.rate,.int x.file.bill.flags,.int x.file.bill.parts,signs x.file.signs,alters x.file.alters,acts x.file.acts,facts x.file.facts,.int x.sign,.int x.holder,.int x.defence,.int x.due,.int x.day]=fV x:=zyz
@[simp] def alH (x:Case):kg 24 (fV x)=fV x:=zyz
@[simp] def ax7 (x:Case)(a0 a1 a2 a3 a4 a5 a6 a7 a8 a9 mJ mK a12 mL mM pA pB a17 qH PX a20 a21 a22 a23:D):D.agg (dI [a0,a1,a2,a3,a4,a5,a6,a7,a8,a9,mJ,mK,a12,mL,mM,pA,pB,a17,qH,PX,a20,a21,a22,a23] 0 [.int x.file.bill.drawer,.int x.file.bill.drawee,.int x.file.bill.payee,.int x.file.bill.sum,.int x.file.bill.currency,.int x.file.bill.tenor.kind,.int x.file.bill.tenor.n,.int x.file.bill.tenor.unit,.int x.file.bill.day,.int x.file.bill.city,.int x.file.bill.pay,.int x.file.bill.need,.int x.file.bill.rate,.int x.file.bill.flags,.int x.file.bill.parts,signs x.file.signs,alters x.file.alters,acts x.file.acts,facts x.file.facts,.int x.sign,.int x.holder,.int x.defence,.int x.due,.int x.day])=fV x:=zyz
@[simp] def aE7 (x:Case):(fV x).c 9=.int x.file.bill.city:=zyz
@[simp] def aE0 (x:Case):(fV x).c 10=.int x.file.bill.pay:=zyz
@[simp] def aE1 (x:Case):(fV x).c 15=signs x.file.signs:=zyz
@[simp] def aE2 (x:Case):(fV x).c 19=.int x.sign:=zyz
@[simp] def aE3 (x:Case):(fV x).c 20=.int x.holder:=zyz
@[simp] def aE4 (x:Case):(fV x).c 21=.int x.defence:=zyz
@[simp] def aE5 (x:Case):(fV x).c 22=.int x.due:=zyz
@[simp] def aE6 (x:Case):(fV x).c 23=.int x.day:=zyz
def cases(l:List Case):D:=.list (l.map fV)
structure Cell where
 known:Bool
 n:Int
 deriving DecidableEq,Inhabited
def cR (x:Cell):D:=.agg [.bool x.known,.int x.n]
@[simp] def aFb (x:Cell):(cR x).cells=[.bool x.known,.int x.n]:=zyz
@[simp] def aKj (x:Cell):D.agg [.bool x.known,.int x.n]=cR x:=zyz
@[simp] def aE9 (x:Cell):(cR x).c 0=.bool x.known:=zyz
@[simp] def aFa (x:Cell):(cR x).c 1=.int x.n:=zyz
def cells (l:List Cell):D:=.list (l.map cR)
@[simp] def aHC (l:List Cell):(cells l).l=l.map cR:=zyz
@[simp] def aHB (l:List Cell):(cells l).cells=[cells l]:=zyz
structure Said where
 cell:Cell
 order:Int
 path:List Int
 err:Int
 deriving Inhabited
def re (x:Said):D:=.agg [.bool x.cell.known,.int x.cell.n,.int x.order,ints x.path,.int x.err]
@[simp] def aGe (x:Said):(re x).cells=[.bool x.cell.known,.int x.cell.n,.int x.order,ints x.path,.int x.err]:=zyz
@[simp] def aKy (x:Said):D.agg [.bool x.cell.known,.int x.cell.n,.int x.order,ints x.path,.int x.err]=re x:=zyz
@[simp] def aHh (x:Said):kg 5 (re x)=re x:=zyz
structure Effect where
 sign:Int
 kind:Int
 firm:Int
 binds:Int
 text:Int
 sum:Int
 recourse:Bool
 deriving DecidableEq,Inhabited
def jL (x:Effect):D:=.agg [.int x.sign,.int x.kind,.int x.firm,.int x.binds,.int x.text,.int x.sum,.bool x.recourse]
@[simp] def aFo (x:Effect):(jL x).cells=[.int x.sign,.int x.kind,.int x.firm,.int x.binds,.int x.text,.int x.sum,.bool x.recourse]:=zyz
@[simp] def aKm (x:Effect):D.agg [.int x.sign,.int x.kind,.int x.firm,.int x.binds,.int x.text,.int x.sum,.bool x.recourse]=jL x:=zyz
@[simp] def aFm (x:Effect):(jL x).c 2=.int x.firm:=zyz
@[simp] def aFn (x:Effect):(jL x).c 5=.int x.sum:=zyz
def og (l:List Effect):D:=.list (l.map jL)
@[simp] def aH4 (l:List Effect):(og l).l=l.map jL:=zyz
@[simp] def aLu (a0 x0:D):dI [a0] 0 [x0]=[x0]:=zyz
@[simp] def aLv (a0 a1 x0 x1:D):dI [a0,a1] 0 [x0,x1]=[x0,x1]:=zyz
@[simp] def aLw (a0 a1 a2 x0 x1 x2:D):dI [a0,a1,a2] 0 [x0,x1,x2]=[x0,x1,x2]:=zyz
@[simp] def aLx (a0 a1 a2 a3 x0 x1 x2 x3:D):dI [a0,a1,a2,a3] 0 [x0,x1,x2,x3]=[x0,x1,x2,x3]:=zyz
@[simp] def aLy (a0 a1 a2 a3 a4 x0 x1 x2 x3 x4:D):dI [a0,a1,a2,a3,a4] 0 [x0,x1,x2,x3,x4]=[x0,x1,x2,x3,x4]:=zyz
@[simp] def aLz (a0 a1 a2 a3 a4 a5 x0 x1 x2 x3 x4 x5:D):dI [a0,a1,a2,a3,a4,a5] 0 [x0,x1,x2,x3,x4,x5]=[x0,x1,x2,x3,x4,x5]:=zyz
@[simp] def aLA (a0 a1 a2 a3 a4 a5 a6 x0 x1 x2 x3 x4 x5 x6:D):dI [a0,a1,a2,a3,a4,a5,a6] 0 [x0,x1,x2,x3,x4,x5,x6]=[x0,x1,x2,x3,x4,x5,x6]:=zyz
@[simp] def aLB (a0 a1 a2 a3 a4 a5 a6 a7 a8 x0 x1 x2 x3 x4 x5 x6 x7 x8:D):dI [a0,a1,a2,a3,a4,a5,a6,a7,a8] 0 [x0,x1,x2,x3,x4,x5,x6,x7,x8]=[x0,x1,x2,x3,x4,x5,x6,x7,x8]:=zyz
end Rm
