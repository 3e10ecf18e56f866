import Derived.Test.YtnkkihnmnfihnaaGreatDoorMAJ
import Derived.Test.YtnkkihnmnfihnaaGreatDoorProg
noncomputable section
set_option linter.all false
namespace Rm
open Go Cx
abbrev str (b:ByteArray):D:=.v (.string b)
def strs (l:List ByteArray):D:=.list (l.map str)
@[simp] def axJ (l:List ByteArray):(strs l).l=l.map str:=zyz
def str_inv {d:D}(h:DTy .str d):∃b,d=str b:=by
 cases h with
 |str b=>exact⟨b,rfl⟩
 |other t d h=>exact h.elim
def axI {d:D}(h:DTy (.slice .str) d):∃l:List ByteArray,d=strs l/\l.length<=maxLen:=by
 obtain⟨xs,rfl,hm,hx⟩:=h.slice_inv;obtain⟨l,rfl,hl⟩:=kQ (enc:=str) (P:=λ_=>True) λx hh=>(str_inv (hx x hh)).imp λb hb=>⟨hb,trivial⟩
 exact⟨l,rfl,by simpa using hm⟩
@[simp] def aDH (t:Tm):(dm t).cells=[.int t.op,.int t.n,.list (t.args.map dm)]:=by rw[EO];rfl
@[simp] def aDI (t:Tm):D.agg [.int t.op,.int t.n,.list (t.args.map dm)]=dm t:=(EO t).symm
@[simp] def aDE (t:Tm):(dm t).c 0=.int t.op:=by rw[EO];rfl
@[simp] def aDF (t:Tm):(dm t).c 1=.int t.n:=by rw[EO];rfl
@[simp] def aDG (t:Tm):(dm t).c 2=.list (t.args.map dm):=by rw[EO];rfl
structure City where
 name:ByteArray
 order:Int
 currency:Int
 rest:List Int
 feasts:List Int
 shut:List Int
 deriving Inhabited
def mB (x:City):D:=.agg [str x.name,.int x.order,.int x.currency,ints x.rest,ints x.feasts,ints x.shut]
@[simp] def aCk (x:City):(mB x).cells=[str x.name,.int x.order,.int x.currency,ints x.rest,ints x.feasts,ints x.shut]:=zyz
@[simp] def aGP (x:City):D.agg [str x.name,.int x.order,.int x.currency,ints x.rest,ints x.feasts,ints x.shut]=mB x:=zyz
@[simp] def aCe (x:City):(mB x).c 0=str x.name:=zyz
@[simp] def aCf (x:City):(mB x).c 1=.int x.order:=zyz
@[simp] def aCg (x:City):(mB x).c 2=.int x.currency:=zyz
@[simp] def aCh (x:City):(mB x).c 3=ints x.rest:=zyz
@[simp] def aCi (x:City):(mB x).c 4=ints x.feasts:=zyz
@[simp] def aCj (x:City):(mB x).c 5=ints x.shut:=zyz
def yh (l:List City):D:=.list (l.map mB)
@[simp] def aEs (l:List City):(yh l).l=l.map mB:=zyz
abbrev Za:Ty:=.agg [.str,.int .i64,.int .i64,.slice (.int .i64),.slice (.int .i64),.slice (.int .i64)]
def City.OK (x:City):Prop:=aQ x.order/\aQ x.currency/\(x.rest.length<=maxLen/\∀y,y∈x.rest->aQ y)/\(x.feasts.length<=maxLen/\∀y,y∈x.feasts->aQ y)/\(x.shut.length<=maxLen/\∀y,y∈x.shut->aQ y)
def ald {d:D}(h:DTy Za d):∃x:City,d=mB x/\x.OK:=by
 obtain⟨ds,rfl,hs⟩:=h.agg_inv;obtain⟨d0,ds,rfl,h0,hs⟩:=hs.cons_inv;obtain⟨d1,ds,rfl,h1,hs⟩:=hs.cons_inv;obtain⟨d2,ds,rfl,h2,hs⟩:=hs.cons_inv;obtain⟨d3,ds,rfl,h3,hs⟩:=hs.cons_inv;obtain⟨d4,ds,rfl,h4,hs⟩:=hs.cons_inv;obtain⟨d5,ds,rfl,h5,hs⟩:=hs.cons_inv;obtain rfl:=hs.nil_inv;obtain⟨n0,rfl⟩:=str_inv h0;obtain⟨n1,rfl,b1⟩:=h1.i64_inv;obtain⟨n2,rfl,b2⟩:=h2.i64_inv;obtain⟨n3,rfl,b3,c3⟩:=h3.ints_inv;obtain⟨n4,rfl,b4,c4⟩:=h4.ints_inv;obtain⟨n5,rfl,b5,c5⟩:=h5.ints_inv;exact⟨⟨n0,n1,n2,n3,n4,n5⟩,rfl,⟨b1,b2,⟨b3,c3⟩,⟨b4,c4⟩,⟨b5,c5⟩⟩⟩
def alf {d:D}(h:DTy (.slice Za) d):∃l:List City,d=yh l/\l.length<=maxLen/\∀y,y∈l->City.OK y:=by
 obtain⟨xs,rfl,hm,hx⟩:=h.slice_inv;obtain⟨l,rfl,hl⟩:=kQ (enc:=mB) (P:=City.OK) λx hh=>ald (hx x hh);exact⟨l,rfl,by simpa using hm,hl⟩
structure Firm where
 name:ByteArray
 city:Int
 group:Int
 deriving Inhabited
def ui (x:Firm):D:=.agg [str x.name,.int x.city,.int x.group]
@[simp] def aCM (x:Firm):(ui x).cells=[str x.name,.int x.city,.int x.group]:=zyz
@[simp] def aGS (x:Firm):D.agg [str x.name,.int x.city,.int x.group]=ui x:=zyz
@[simp] def aCJ (x:Firm):(ui x).c 0=str x.name:=zyz
@[simp] def aCK (x:Firm):(ui x).c 1=.int x.city:=zyz
@[simp] def aCL (x:Firm):(ui x).c 2=.int x.group:=zyz
def firms (l:List Firm):D:=.list (l.map ui)
@[simp] def aFI (l:List Firm):(firms l).l=l.map ui:=zyz
abbrev Zc:Ty:=.agg [.str,.int .i64,.int .i64]
def Firm.OK (x:Firm):Prop:=aQ x.city/\aQ x.group
def amP {d:D}(h:DTy Zc d):∃x:Firm,d=ui x/\x.OK:=by
 obtain⟨ds,rfl,hs⟩:=h.agg_inv;obtain⟨d0,ds,rfl,h0,hs⟩:=hs.cons_inv;obtain⟨d1,ds,rfl,h1,hs⟩:=hs.cons_inv;obtain⟨d2,ds,rfl,h2,hs⟩:=hs.cons_inv;obtain rfl:=hs.nil_inv;obtain⟨n0,rfl⟩:=str_inv h0;obtain⟨n1,rfl,b1⟩:=h1.i64_inv;obtain⟨n2,rfl,b2⟩:=h2.i64_inv;exact⟨⟨n0,n1,n2⟩,rfl,⟨b1,b2⟩⟩
def amQ {d:D}(h:DTy (.slice Zc) d):∃l:List Firm,d=firms l/\l.length<=maxLen/\∀y,y∈l->Firm.OK y:=by
 obtain⟨xs,rfl,hm,hx⟩:=h.slice_inv;obtain⟨l,rfl,hl⟩:=kQ (enc:=ui) (P:=Firm.OK) λx hh=>amP (hx x hh);exact⟨l,rfl,by simpa using hm,hl⟩
structure Group where
 grade:Int
 deriving DecidableEq,Inhabited
def yk (x:Group):D:=.agg [.int x.grade]
@[simp] def aCO (x:Group):(yk x).cells=[.int x.grade]:=zyz
@[simp] def aGT (x:Group):D.agg [.int x.grade]=yk x:=zyz
@[simp] def aCN (x:Group):(yk x).c 0=.int x.grade:=zyz
def groups (l:List Group):D:=.list (l.map yk)
@[simp] def aFR (l:List Group):(groups l).l=l.map yk:=zyz
abbrev Zd:Ty:=.agg [.int .i64]
def Group.OK (x:Group):Prop:=aQ x.grade
def aow {d:D}(h:DTy Zd d):∃x:Group,d=yk x/\x.OK:=by
 obtain⟨ds,rfl,hs⟩:=h.agg_inv;obtain⟨d0,ds,rfl,h0,hs⟩:=hs.cons_inv;obtain rfl:=hs.nil_inv;obtain⟨n0,rfl,b0⟩:=h0.i64_inv;exact⟨⟨n0⟩,rfl,b0⟩
def aox {d:D}(h:DTy (.slice Zd) d):∃l:List Group,d=groups l/\l.length<=maxLen/\∀y,y∈l->Group.OK y:=by
 obtain⟨xs,rfl,hm,hx⟩:=h.slice_inv;obtain⟨l,rfl,hl⟩:=kQ (enc:=yk) (P:=Group.OK) λx hh=>aow (hx x hh);exact⟨l,rfl,by simpa using hm,hl⟩
structure Usance where
 fr:Int
 to:Int
 days:Int
 deriving DecidableEq,Inhabited
def um (x:Usance):D:=.agg [.int x.fr,.int x.to,.int x.days]
@[simp] def aDQ (x:Usance):(um x).cells=[.int x.fr,.int x.to,.int x.days]:=zyz
@[simp] def aG5 (x:Usance):D.agg [.int x.fr,.int x.to,.int x.days]=um x:=zyz
@[simp] def aDN (x:Usance):(um x).c 0=.int x.fr:=zyz
@[simp] def aDO (x:Usance):(um x).c 1=.int x.to:=zyz
@[simp] def aDP (x:Usance):(um x).c 2=.int x.days:=zyz
def usances (l:List Usance):D:=.list (l.map um)
@[simp] def aHZ (l:List Usance):(usances l).l=l.map um:=zyz
abbrev Zk:Ty:=.agg [.int .i64,.int .i64,.int .i64]
def Usance.OK (x:Usance):Prop:=aQ x.fr/\aQ x.to/\aQ x.days
def aA8 {d:D}(h:DTy Zk d):∃x:Usance,d=um x/\x.OK:=by
 obtain⟨ds,rfl,hs⟩:=h.agg_inv;obtain⟨d0,ds,rfl,h0,hs⟩:=hs.cons_inv;obtain⟨d1,ds,rfl,h1,hs⟩:=hs.cons_inv;obtain⟨d2,ds,rfl,h2,hs⟩:=hs.cons_inv;obtain rfl:=hs.nil_inv;obtain⟨n0,rfl,b0⟩:=h0.i64_inv;obtain⟨n1,rfl,b1⟩:=h1.i64_inv;obtain⟨n2,rfl,b2⟩:=h2.i64_inv;exact⟨⟨n0,n1,n2⟩,rfl,⟨b0,b1,b2⟩⟩
def aA9 {d:D}(h:DTy (.slice Zk) d):∃l:List Usance,d=usances l/\l.length<=maxLen/\∀y,y∈l->Usance.OK y:=by
 obtain⟨xs,rfl,hm,hx⟩:=h.slice_inv;obtain⟨l,rfl,hl⟩:=kQ (enc:=um) (P:=Usance.OK) λx hh=>aA8 (hx x hh);exact⟨l,rfl,by simpa using hm,hl⟩
structure Rate where
 fr:Int
 to:Int
 num:Int
 den:Int
 since:Int
 deriving DecidableEq,Inhabited
def qW (x:Rate):D:=.agg [.int x.fr,.int x.to,.int x.num,.int x.den,.int x.since]
@[simp] def aDd (x:Rate):(qW x).cells=[.int x.fr,.int x.to,.int x.num,.int x.den,.int x.since]:=zyz
@[simp] def aGY (x:Rate):D.agg [.int x.fr,.int x.to,.int x.num,.int x.den,.int x.since]=qW x:=zyz
@[simp] def aC8 (x:Rate):(qW x).c 0=.int x.fr:=zyz
@[simp] def aC9 (x:Rate):(qW x).c 1=.int x.to:=zyz
@[simp] def aDa (x:Rate):(qW x).c 2=.int x.num:=zyz
@[simp] def aDb (x:Rate):(qW x).c 3=.int x.den:=zyz
@[simp] def aDc (x:Rate):(qW x).c 4=.int x.since:=zyz
def rates (l:List Rate):D:=.list (l.map qW)
@[simp] def aHq (l:List Rate):(rates l).l=l.map qW:=zyz
abbrev Zh:Ty:=.agg [.int .i64,.int .i64,.int .i64,.int .i64,.int .i64]
def Rate.OK (x:Rate):Prop:=aQ x.fr/\aQ x.to/\aQ x.num/\aQ x.den/\aQ x.since
def awH {d:D}(h:DTy Zh d):∃x:Rate,d=qW x/\x.OK:=by
 obtain⟨ds,rfl,hs⟩:=h.agg_inv;obtain⟨d0,ds,rfl,h0,hs⟩:=hs.cons_inv;obtain⟨d1,ds,rfl,h1,hs⟩:=hs.cons_inv;obtain⟨d2,ds,rfl,h2,hs⟩:=hs.cons_inv;obtain⟨d3,ds,rfl,h3,hs⟩:=hs.cons_inv;obtain⟨d4,ds,rfl,h4,hs⟩:=hs.cons_inv;obtain rfl:=hs.nil_inv;obtain⟨n0,rfl,b0⟩:=h0.i64_inv;obtain⟨n1,rfl,b1⟩:=h1.i64_inv;obtain⟨n2,rfl,b2⟩:=h2.i64_inv;obtain⟨n3,rfl,b3⟩:=h3.i64_inv;obtain⟨n4,rfl,b4⟩:=h4.i64_inv;exact⟨⟨n0,n1,n2,n3,n4⟩,rfl,⟨b0,b1,b2,b3,b4⟩⟩
def awI {d:D}(h:DTy (.slice Zh) d):∃l:List Rate,d=rates l/\l.length<=maxLen/\∀y,y∈l->Rate.OK y:=by
 obtain⟨xs,rfl,hm,hx⟩:=h.slice_inv;obtain⟨l,rfl,hl⟩:=kQ (enc:=qW) (P:=Rate.OK) λx hh=>awH (hx x hh);exact⟨l,rfl,by simpa using hm,hl⟩
structure Halt where
 order:Int
 fr:Int
 to:Int
 deriving DecidableEq,Inhabited
def uj (x:Halt):D:=.agg [.int x.order,.int x.fr,.int x.to]
@[simp] def aCS (x:Halt):(uj x).cells=[.int x.order,.int x.fr,.int x.to]:=zyz
@[simp] def aGU (x:Halt):D.agg [.int x.order,.int x.fr,.int x.to]=uj x:=zyz
@[simp] def aCP (x:Halt):(uj x).c 0=.int x.order:=zyz
@[simp] def aCQ (x:Halt):(uj x).c 1=.int x.fr:=zyz
@[simp] def aCR (x:Halt):(uj x).c 2=.int x.to:=zyz
def halts (l:List Halt):D:=.list (l.map uj)
@[simp] def aF0 (l:List Halt):(halts l).l=l.map uj:=zyz
abbrev Ze:Ty:=.agg [.int .i64,.int .i64,.int .i64]
def Halt.OK (x:Halt):Prop:=aQ x.order/\aQ x.fr/\aQ x.to
def aoZ {d:D}(h:DTy Ze d):∃x:Halt,d=uj x/\x.OK:=by
 obtain⟨ds,rfl,hs⟩:=h.agg_inv;obtain⟨d0,ds,rfl,h0,hs⟩:=hs.cons_inv;obtain⟨d1,ds,rfl,h1,hs⟩:=hs.cons_inv;obtain⟨d2,ds,rfl,h2,hs⟩:=hs.cons_inv;obtain rfl:=hs.nil_inv;obtain⟨n0,rfl,b0⟩:=h0.i64_inv;obtain⟨n1,rfl,b1⟩:=h1.i64_inv;obtain⟨n2,rfl,b2⟩:=h2.i64_inv;exact⟨⟨n0,n1,n2⟩,rfl,⟨b0,b1,b2⟩⟩
def ao0 {d:D}(h:DTy (.slice Ze) d):∃l:List Halt,d=halts l/\l.length<=maxLen/\∀y,y∈l->Halt.OK y:=by
 obtain⟨xs,rfl,hm,hx⟩:=h.slice_inv;obtain⟨l,rfl,hl⟩:=kQ (enc:=uj) (P:=Halt.OK) λx hh=>aoZ (hx x hh);exact⟨l,rfl,by simpa using hm,hl⟩
structure Choice where
 ask:Int
 by_:Int
 whole:Bool
 deriving DecidableEq,Inhabited
def ug (x:Choice):D:=.agg [.int x.ask,.int x.by_,.bool x.whole]
@[simp] def aCd (x:Choice):(ug x).cells=[.int x.ask,.int x.by_,.bool x.whole]:=zyz
@[simp] def aGO (x:Choice):D.agg [.int x.ask,.int x.by_,.bool x.whole]=ug x:=zyz
@[simp] def aCb (x:Choice):(ug x).c 0=.int x.ask:=zyz
@[simp] def aCc (x:Choice):(ug x).c 1=.int x.by_:=zyz
def choices (l:List Choice):D:=.list (l.map ug)
@[simp] def aEr (l:List Choice):(choices l).l=l.map ug:=zyz
abbrev YZ:Ty:=.agg [.int .i64,.int .i64,.bool]
def Choice.OK (x:Choice):Prop:=aQ x.ask/\aQ x.by_
def ala {d:D}(h:DTy YZ d):∃x:Choice,d=ug x/\x.OK:=by
 obtain⟨ds,rfl,hs⟩:=h.agg_inv;obtain⟨d0,ds,rfl,h0,hs⟩:=hs.cons_inv;obtain⟨d1,ds,rfl,h1,hs⟩:=hs.cons_inv;obtain⟨d2,ds,rfl,h2,hs⟩:=hs.cons_inv;obtain rfl:=hs.nil_inv;obtain⟨n0,rfl,b0⟩:=h0.i64_inv;obtain⟨n1,rfl,b1⟩:=h1.i64_inv;obtain⟨n2,rfl⟩:=h2.bool_inv;exact⟨⟨n0,n1,n2⟩,rfl,⟨b0,b1⟩⟩
def alb {d:D}(h:DTy (.slice YZ) d):∃l:List Choice,d=choices l/\l.length<=maxLen/\∀y,y∈l->Choice.OK y:=by
 obtain⟨xs,rfl,hm,hx⟩:=h.slice_inv;obtain⟨l,rfl,hl⟩:=kQ (enc:=ug) (P:=Choice.OK) λx hh=>ala (hx x hh);exact⟨l,rfl,by simpa using hm,hl⟩
structure Rule where
 ask:Int
 term:Tm
 deriving Inhabited
def uk (x:Rule):D:=.agg [.int x.ask,.int x.term.op,.int x.term.n,.list (x.term.args.map dm)]
@[simp] def aDo (x:Rule):(uk x).cells=[.int x.ask,.int x.term.op,.int x.term.n,.list (x.term.args.map dm)]:=zyz
@[simp] def aG0 (x:Rule):D.agg [.int x.ask,.int x.term.op,.int x.term.n,.list (x.term.args.map dm)]=uk x:=zyz
@[simp] def aDn (x:Rule):(uk x).c 0=.int x.ask:=zyz
def rules (l:List Rule):D:=.list (l.map uk)
@[simp] def aHu (l:List Rule):(rules l).l=l.map uk:=zyz
abbrev Zi:Ty:=.agg [.int .i64,.int .i64,.int .i64,.slice .trm]
def Rule.OK (x:Rule):Prop:=aQ x.ask/\Tm.OK x.term
def axf {d:D}(h:DTy Zi d):∃x:Rule,d=uk x/\x.OK:=by
 obtain⟨ds,rfl,hs⟩:=h.agg_inv;obtain⟨d0,ds,rfl,h0,hs⟩:=hs.cons_inv;obtain⟨d1,ds,rfl,h1,hs⟩:=hs.cons_inv;obtain⟨d2,ds,rfl,h2,hs⟩:=hs.cons_inv;obtain⟨d3,ds,rfl,h3,hs⟩:=hs.cons_inv;obtain rfl:=hs.nil_inv;obtain⟨n0,rfl,b0⟩:=h0.i64_inv;obtain⟨n1,rfl,b1⟩:=h1.i64_inv;obtain⟨n2,rfl,b2⟩:=h2.i64_inv;obtain⟨n3,rfl,b3,c3⟩:=h3.trms_inv;exact⟨⟨n0,.mk n1 n2 n3⟩,rfl,⟨b0,.mk _ _ _ b1 b2 b3 c3⟩⟩
def axg {d:D}(h:DTy (.slice Zi) d):∃l:List Rule,d=rules l/\l.length<=maxLen/\∀y,y∈l->Rule.OK y:=by
 obtain⟨xs,rfl,hm,hx⟩:=h.slice_inv;obtain⟨l,rfl,hl⟩:=kQ (enc:=uk) (P:=Rule.OK) λx hh=>axf (hx x hh);exact⟨l,rfl,by simpa using hm,hl⟩
structure Order where
 name:ByteArray
 accepts:Bool
 choices:List Choice
 rules:List Rule
 deriving Inhabited
def iO (x:Order):D:=.agg [str x.name,.bool x.accepts,choices x.choices,rules x.rules]
@[simp] def aC7 (x:Order):(iO x).cells=[str x.name,.bool x.accepts,choices x.choices,rules x.rules]:=zyz
@[simp] def aGX (x:Order):D.agg [str x.name,.bool x.accepts,choices x.choices,rules x.rules]=iO x:=zyz
@[simp] def aD4 (x:Order):lf 4 (iO x)=iO x:=zyz
@[simp] def aC3 (x:Order):(iO x).c 0=str x.name:=zyz
@[simp] def aC4 (x:Order):(iO x).c 1=.bool x.accepts:=zyz
@[simp] def aC5 (x:Order):(iO x).c 2=choices x.choices:=zyz
@[simp] def aC6 (x:Order):(iO x).c 3=rules x.rules:=zyz
def orders (l:List Order):D:=.list (l.map iO)
@[simp] def aHd (l:List Order):(orders l).l=l.map iO:=zyz
abbrev Zg:Ty:=.agg [.str,.bool,.slice YZ,.slice Zi]
def Order.OK (x:Order):Prop:=(x.choices.length<=maxLen/\∀y,y∈x.choices->Choice.OK y)/\(x.rules.length<=maxLen/\∀y,y∈x.rules->Rule.OK y)
def au9 {d:D}(h:DTy Zg d):∃x:Order,d=iO x/\x.OK:=by
 obtain⟨ds,rfl,hs⟩:=h.agg_inv;obtain⟨d0,ds,rfl,h0,hs⟩:=hs.cons_inv;obtain⟨d1,ds,rfl,h1,hs⟩:=hs.cons_inv;obtain⟨d2,ds,rfl,h2,hs⟩:=hs.cons_inv;obtain⟨d3,ds,rfl,h3,hs⟩:=hs.cons_inv;obtain rfl:=hs.nil_inv;obtain⟨n0,rfl⟩:=str_inv h0;obtain⟨n1,rfl⟩:=h1.bool_inv;obtain⟨n2,rfl,b2,c2⟩:=alb h2;obtain⟨n3,rfl,b3,c3⟩:=axg h3;exact⟨⟨n0,n1,n2,n3⟩,rfl,⟨⟨b2,c2⟩,⟨b3,c3⟩⟩⟩
def ava {d:D}(h:DTy (.slice Zg) d):∃l:List Order,d=orders l/\l.length<=maxLen/\∀y,y∈l->Order.OK y:=by
 obtain⟨xs,rfl,hm,hx⟩:=h.slice_inv;obtain⟨l,rfl,hl⟩:=kQ (enc:=iO) (P:=Order.OK) λx hh=>au9 (hx x hh);exact⟨l,rfl,by simpa using hm,hl⟩
structure Realm where
 currencies:List ByteArray
 cities:List City
 groups:List Group
 firms:List Firm
 orders:List Order
 usances:List Usance
 rates:List Rate
 halts:List Halt
 deriving Inhabited
abbrev zzz (x:Realm):List D:=[strs x.currencies,yh x.cities,groups x.groups,firms x.firms,orders x.orders,usances x.usances,rates x.rates,halts x.halts]
def aX (x:Realm):D:=.agg (zzz x)
@[simp] def aDm (x:Realm):(aX x).cells=(zzz x):=zyz
@[simp] def aGZ (x:Realm):D.agg (zzz x)=aX x:=zyz
@[simp] def aD5 (x:Realm):lf 8 (aX x)=aX x:=zyz
@[simp] def aHh (x:Realm)(a0 a1 a2 a3 a4 a5 a6 a7:D):D.agg (bH [a0,a1,a2,a3,a4,a5,a6,a7] 0 (zzz x))=aX x:=zyz
@[simp] def aDe (x:Realm):(aX x).c 0=strs x.currencies:=zyz
@[simp] def aDf (x:Realm):(aX x).c 1=yh x.cities:=zyz
@[simp] def aDg (x:Realm):(aX x).c 2=groups x.groups:=zyz
@[simp] def aDh (x:Realm):(aX x).c 3=firms x.firms:=zyz
@[simp] def aDi (x:Realm):(aX x).c 4=orders x.orders:=zyz
@[simp] def aDj (x:Realm):(aX x).c 5=usances x.usances:=zyz
@[simp] def aDk (x:Realm):(aX x).c 6=rates x.rates:=zyz
@[simp] def aDl (x:Realm):(aX x).c 7=halts x.halts:=zyz
abbrev aAZ:Ty:=.agg [.slice .str,.slice Za,.slice Zd,.slice Zc,.slice Zg,.slice Zk,.slice Zh,.slice Ze]
def Realm.OK (x:Realm):Prop:=x.currencies.length<=maxLen/\(x.cities.length<=maxLen/\∀y,y∈x.cities->City.OK y)/\(x.groups.length<=maxLen/\∀y,y∈x.groups->Group.OK y)/\(x.firms.length<=maxLen/\∀y,y∈x.firms->Firm.OK y)/\(x.orders.length<=maxLen/\∀y,y∈x.orders->Order.OK y)/\(x.usances.length<=maxLen/\∀y,y∈x.usances->Usance.OK y)/\(x.rates.length<=maxLen/\∀y,y∈x.rates->Rate.OK y)/\(x.halts.length<=maxLen/\∀y,y∈x.halts->Halt.OK y)
def awS {d:D}(h:DTy aAZ d):∃x:Realm,d=aX x/\x.OK:=by
 obtain⟨ds,rfl,hs⟩:=h.agg_inv;obtain⟨d0,ds,rfl,h0,hs⟩:=hs.cons_inv;obtain⟨d1,ds,rfl,h1,hs⟩:=hs.cons_inv;obtain⟨d2,ds,rfl,h2,hs⟩:=hs.cons_inv;obtain⟨d3,ds,rfl,h3,hs⟩:=hs.cons_inv;obtain⟨d4,ds,rfl,h4,hs⟩:=hs.cons_inv;obtain⟨d5,ds,rfl,h5,hs⟩:=hs.cons_inv;obtain⟨d6,ds,rfl,h6,hs⟩:=hs.cons_inv;obtain⟨d7,ds,rfl,h7,hs⟩:=hs.cons_inv;obtain rfl:=hs.nil_inv;obtain⟨n0,rfl,b0⟩:=axI h0;obtain⟨n1,rfl,b1,c1⟩:=alf h1;obtain⟨n2,rfl,b2,c2⟩:=aox h2;obtain⟨n3,rfl,b3,c3⟩:=amQ h3;obtain⟨n4,rfl,b4,c4⟩:=ava h4;obtain⟨n5,rfl,b5,c5⟩:=aA9 h5;obtain⟨n6,rfl,b6,c6⟩:=awI h6;obtain⟨n7,rfl,b7,c7⟩:=ao0 h7;exact⟨⟨n0,n1,n2,n3,n4,n5,n6,n7⟩,rfl,⟨b0,⟨b1,c1⟩,⟨b2,c2⟩,⟨b3,c3⟩,⟨b4,c4⟩,⟨b5,c5⟩,⟨b6,c6⟩,⟨b7,c7⟩⟩⟩
structure Tenor where
 kind:Int
 n:Int
 unit:Int
 deriving DecidableEq,Inhabited
def EP (x:Tenor):D:=.agg [.int x.kind,.int x.n,.int x.unit]
@[simp] def aDM (x:Tenor):(EP x).cells=[.int x.kind,.int x.n,.int x.unit]:=zyz
@[simp] def aG4 (x:Tenor):D.agg [.int x.kind,.int x.n,.int x.unit]=EP x:=zyz
@[simp] def aDJ (x:Tenor):(EP x).c 0=.int x.kind:=zyz
@[simp] def aDK (x:Tenor):(EP x).c 1=.int x.n:=zyz
@[simp] def aDL (x:Tenor):(EP x).c 2=.int x.unit:=zyz
def Tenor.OK (x:Tenor):Prop:=aQ x.kind/\aQ x.n/\aQ x.unit
structure Bill where
 drawer:Int
 drawee:Int
 payee:Int
 sum:Int
 currency:Int
 tenor:Tenor
 day:Int
 city:Int
 pay:Int
 need:Int
 rate:Int
 flags:Int
 parts:Int
 deriving DecidableEq,Inhabited
abbrev WP (x:Bill):List D:=[.int x.drawer,.int x.drawee,.int x.payee,.int x.sum,.int x.currency,.int x.tenor.kind,.int x.tenor.n,.int x.tenor.unit,.int x.day,.int x.city,.int x.pay,.int x.need,.int x.rate,.int x.flags,.int x.parts]
def fK (x:Bill):D:=.agg (WP x)
@[simp] def aBW (x:Bill):(fK x).cells=(WP x):=zyz
@[simp] def aGK (x:Bill):D.agg (WP x)=fK x:=zyz
@[simp] def aD0 (x:Bill):lf 15 (fK x)=fK x:=zyz
@[simp] def aHe (x:Bill)(a0 a1 a2 a3 a4 a5 a6 a7 a8 a9 nv pz pA pB pC:D):D.agg (bH [a0,a1,a2,a3,a4,a5,a6,a7,a8,a9,nv,pz,pA,pB,pC] 0 (WP x))=fK x:=zyz
@[simp] def aBH (x:Bill):(fK x).c 0=.int x.drawer:=zyz
@[simp] def aBI (x:Bill):(fK x).c 1=.int x.drawee:=zyz
@[simp] def aBO (x:Bill):(fK x).c 2=.int x.payee:=zyz
@[simp] def aBP (x:Bill):(fK x).c 3=.int x.sum:=zyz
@[simp] def aBQ (x:Bill):(fK x).c 4=.int x.currency:=zyz
@[simp] def aBR (x:Bill):(fK x).c 5=.int x.tenor.kind:=zyz
@[simp] def aBS (x:Bill):(fK x).c 6=.int x.tenor.n:=zyz
@[simp] def aBT (x:Bill):(fK x).c 7=.int x.tenor.unit:=zyz
@[simp] def aBU (x:Bill):(fK x).c 8=.int x.day:=zyz
@[simp] def aBV (x:Bill):(fK x).c 9=.int x.city:=zyz
@[simp] def aBJ (x:Bill):(fK x).c 10=.int x.pay:=zyz
@[simp] def aBK (x:Bill):(fK x).c 11=.int x.need:=zyz
@[simp] def aBL (x:Bill):(fK x).c 12=.int x.rate:=zyz
@[simp] def aBM (x:Bill):(fK x).c 13=.int x.flags:=zyz
@[simp] def aBN (x:Bill):(fK x).c 14=.int x.parts:=zyz
def Bill.OK (x:Bill):Prop:=aQ x.drawer/\aQ x.drawee/\aQ x.payee/\aQ x.sum/\aQ x.currency/\Tenor.OK x.tenor/\aQ x.day/\aQ x.city/\aQ x.pay/\aQ x.need/\aQ x.rate/\aQ x.flags/\aQ x.parts
structure Sign where
 kind:Int
 part:Int
 who:Int
 for_:Int
 to:Int
 sum:Int
 day:Int
 city:Int
 flags:Int
 deriving DecidableEq,Inhabited
abbrev zzy (x:Sign):List D:=[.int x.kind,.int x.part,.int x.who,.int x.for_,.int x.to,.int x.sum,.int x.day,.int x.city,.int x.flags]
def fy (x:Sign):D:=.agg (zzy x)
@[simp] def aDD (x:Sign):(fy x).cells=(zzy x):=zyz
@[simp] def aG3 (x:Sign):D.agg (zzy x)=fy x:=zyz
@[simp] def aD7 (x:Sign):lf 9 (fy x)=fy x:=zyz
@[simp] def aDu (x:Sign):(fy x).c 0=.int x.kind:=zyz
@[simp] def aDv (x:Sign):(fy x).c 1=.int x.part:=zyz
@[simp] def aDw (x:Sign):(fy x).c 2=.int x.who:=zyz
@[simp] def aDx (x:Sign):(fy x).c 3=.int x.for_:=zyz
@[simp] def aDy (x:Sign):(fy x).c 4=.int x.to:=zyz
@[simp] def aDz (x:Sign):(fy x).c 5=.int x.sum:=zyz
@[simp] def aDA (x:Sign):(fy x).c 6=.int x.day:=zyz
@[simp] def aDB (x:Sign):(fy x).c 7=.int x.city:=zyz
@[simp] def aDC (x:Sign):(fy x).c 8=.int x.flags:=zyz
def signs (l:List Sign):D:=.list (l.map fy)
@[simp] def aHF (l:List Sign):(signs l).l=l.map fy:=zyz
@[simp] def aHE (l:List Sign):(signs l).cells=[signs l]:=zyz
abbrev Zj:Ty:=.agg [.int .i64,.int .i64,.int .i64,.int .i64,.int .i64,.int .i64,.int .i64,.int .i64,.int .i64]
def Sign.OK (x:Sign):Prop:=aQ x.kind/\aQ x.part/\aQ x.who/\aQ x.for_/\aQ x.to/\aQ x.sum/\aQ x.day/\aQ x.city/\aQ x.flags
def axy {d:D}(h:DTy Zj d):∃x:Sign,d=fy x/\x.OK:=by
 obtain⟨ds,rfl,hs⟩:=h.agg_inv;obtain⟨d0,ds,rfl,h0,hs⟩:=hs.cons_inv;obtain⟨d1,ds,rfl,h1,hs⟩:=hs.cons_inv;obtain⟨d2,ds,rfl,h2,hs⟩:=hs.cons_inv;obtain⟨d3,ds,rfl,h3,hs⟩:=hs.cons_inv;obtain⟨d4,ds,rfl,h4,hs⟩:=hs.cons_inv;obtain⟨d5,ds,rfl,h5,hs⟩:=hs.cons_inv;obtain⟨d6,ds,rfl,h6,hs⟩:=hs.cons_inv;obtain⟨d7,ds,rfl,h7,hs⟩:=hs.cons_inv;obtain⟨d8,ds,rfl,h8,hs⟩:=hs.cons_inv;obtain rfl:=hs.nil_inv;obtain⟨n0,rfl,b0⟩:=h0.i64_inv;obtain⟨n1,rfl,b1⟩:=h1.i64_inv;obtain⟨n2,rfl,b2⟩:=h2.i64_inv;obtain⟨n3,rfl,b3⟩:=h3.i64_inv;obtain⟨n4,rfl,b4⟩:=h4.i64_inv;obtain⟨n5,rfl,b5⟩:=h5.i64_inv;obtain⟨n6,rfl,b6⟩:=h6.i64_inv;obtain⟨n7,rfl,b7⟩:=h7.i64_inv;obtain⟨n8,rfl,b8⟩:=h8.i64_inv;exact⟨⟨n0,n1,n2,n3,n4,n5,n6,n7,n8⟩,rfl,⟨b0,b1,b2,b3,b4,b5,b6,b7,b8⟩⟩
def axA {d:D}(h:DTy (.slice Zj) d):∃l:List Sign,d=signs l/\l.length<=maxLen/\∀y,y∈l->Sign.OK y:=by
 obtain⟨xs,rfl,hm,hx⟩:=h.slice_inv;obtain⟨l,rfl,hl⟩:=kQ (enc:=fy) (P:=Sign.OK) λx hh=>axy (hx x hh);exact⟨l,rfl,by simpa using hm,hl⟩
structure Alter where
 at_:Int
 sum:Int
 deriving DecidableEq,Inhabited
def qU (x:Alter):D:=.agg [.int x.at_,.int x.sum]
@[simp] def aBG (x:Alter):(qU x).cells=[.int x.at_,.int x.sum]:=zyz
@[simp] def aGJ (x:Alter):D.agg [.int x.at_,.int x.sum]=qU x:=zyz
@[simp] def aBE (x:Alter):(qU x).c 0=.int x.at_:=zyz
@[simp] def aBF (x:Alter):(qU x).c 1=.int x.sum:=zyz
def alters (l:List Alter):D:=.list (l.map qU)
@[simp] def aEa (l:List Alter):(alters l).l=l.map qU:=zyz
@[simp] def aD9 (l:List Alter):(alters l).cells=[alters l]:=zyz
abbrev YY:Ty:=.agg [.int .i64,.int .i64]
def Alter.OK (x:Alter):Prop:=aQ x.at_/\aQ x.sum
def akj {d:D}(h:DTy YY d):∃x:Alter,d=qU x/\x.OK:=by
 obtain⟨ds,rfl,hs⟩:=h.agg_inv;obtain⟨d0,ds,rfl,h0,hs⟩:=hs.cons_inv;obtain⟨d1,ds,rfl,h1,hs⟩:=hs.cons_inv;obtain rfl:=hs.nil_inv;obtain⟨n0,rfl,b0⟩:=h0.i64_inv;obtain⟨n1,rfl,b1⟩:=h1.i64_inv;exact⟨⟨n0,n1⟩,rfl,⟨b0,b1⟩⟩
def akk {d:D}(h:DTy (.slice YY) d):∃l:List Alter,d=alters l/\l.length<=maxLen/\∀y,y∈l->Alter.OK y:=by
 obtain⟨xs,rfl,hm,hx⟩:=h.slice_inv;obtain⟨l,rfl,hl⟩:=kQ (enc:=qU) (P:=Alter.OK) λx hh=>akj (hx x hh);exact⟨l,rfl,by simpa using hm,hl⟩
structure Act where
 kind:Int
 who:Int
 to:Int
 part:Int
 at_:Int
 sum:Int
 day:Int
 city:Int
 form:Int
 deriving DecidableEq,Inhabited
abbrev zzx (x:Act):List D:=[.int x.kind,.int x.who,.int x.to,.int x.part,.int x.at_,.int x.sum,.int x.day,.int x.city,.int x.form]
def ib (x:Act):D:=.agg (zzx x)
@[simp] def aBD (x:Act):(ib x).cells=(zzx x):=zyz
@[simp] def aGI (x:Act):D.agg (zzx x)=ib x:=zyz
@[simp] def aDZ (x:Act):lf 9 (ib x)=ib x:=zyz
@[simp] def aBu (x:Act):(ib x).c 0=.int x.kind:=zyz
@[simp] def aBv (x:Act):(ib x).c 1=.int x.who:=zyz
@[simp] def aBw (x:Act):(ib x).c 2=.int x.to:=zyz
@[simp] def aBx (x:Act):(ib x).c 3=.int x.part:=zyz
@[simp] def aBy (x:Act):(ib x).c 4=.int x.at_:=zyz
@[simp] def aBz (x:Act):(ib x).c 5=.int x.sum:=zyz
@[simp] def aBA (x:Act):(ib x).c 6=.int x.day:=zyz
@[simp] def aBB (x:Act):(ib x).c 7=.int x.city:=zyz
@[simp] def aBC (x:Act):(ib x).c 8=.int x.form:=zyz
def acts (l:List Act):D:=.list (l.map ib)
@[simp] def aDS (l:List Act):(acts l).l=l.map ib:=zyz
@[simp] def aDR (l:List Act):(acts l).cells=[acts l]:=zyz
abbrev YX:Ty:=.agg [.int .i64,.int .i64,.int .i64,.int .i64,.int .i64,.int .i64,.int .i64,.int .i64,.int .i64]
def Act.OK (x:Act):Prop:=aQ x.kind/\aQ x.who/\aQ x.to/\aQ x.part/\aQ x.at_/\aQ x.sum/\aQ x.day/\aQ x.city/\aQ x.form
def akb {d:D}(h:DTy YX d):∃x:Act,d=ib x/\x.OK:=by
 obtain⟨ds,rfl,hs⟩:=h.agg_inv;obtain⟨d0,ds,rfl,h0,hs⟩:=hs.cons_inv;obtain⟨d1,ds,rfl,h1,hs⟩:=hs.cons_inv;obtain⟨d2,ds,rfl,h2,hs⟩:=hs.cons_inv;obtain⟨d3,ds,rfl,h3,hs⟩:=hs.cons_inv;obtain⟨d4,ds,rfl,h4,hs⟩:=hs.cons_inv;obtain⟨d5,ds,rfl,h5,hs⟩:=hs.cons_inv;obtain⟨d6,ds,rfl,h6,hs⟩:=hs.cons_inv;obtain⟨d7,ds,rfl,h7,hs⟩:=hs.cons_inv;obtain⟨d8,ds,rfl,h8,hs⟩:=hs.cons_inv;obtain rfl:=hs.nil_inv;obtain⟨n0,rfl,b0⟩:=h0.i64_inv;obtain⟨n1,rfl,b1⟩:=h1.i64_inv;obtain⟨n2,rfl,b2⟩:=h2.i64_inv;obtain⟨n3,rfl,b3⟩:=h3.i64_inv;obtain⟨n4,rfl,b4⟩:=h4.i64_inv;obtain⟨n5,rfl,b5⟩:=h5.i64_inv;obtain⟨n6,rfl,b6⟩:=h6.i64_inv;obtain⟨n7,rfl,b7⟩:=h7.i64_inv;obtain⟨n8,rfl,b8⟩:=h8.i64_inv;exact⟨⟨n0,n1,n2,n3,n4,n5,n6,n7,n8⟩,rfl,⟨b0,b1,b2,b3,b4,b5,b6,b7,b8⟩⟩
def akc {d:D}(h:DTy (.slice YX) d):∃l:List Act,d=acts l/\l.length<=maxLen/\∀y,y∈l->Act.OK y:=by
 obtain⟨xs,rfl,hm,hx⟩:=h.slice_inv;obtain⟨l,rfl,hl⟩:=kQ (enc:=ib) (P:=Act.OK) λx hh=>akb (hx x hh);exact⟨l,rfl,by simpa using hm,hl⟩
structure Fact where
 kind:Int
 at_:Int
 n:Int
 deriving DecidableEq,Inhabited
def uh (x:Fact):D:=.agg [.int x.kind,.int x.at_,.int x.n]
@[simp] def aCo (x:Fact):(uh x).cells=[.int x.kind,.int x.at_,.int x.n]:=zyz
@[simp] def aGQ (x:Fact):D.agg [.int x.kind,.int x.at_,.int x.n]=uh x:=zyz
@[simp] def aCl (x:Fact):(uh x).c 0=.int x.kind:=zyz
@[simp] def aCm (x:Fact):(uh x).c 1=.int x.at_:=zyz
@[simp] def aCn (x:Fact):(uh x).c 2=.int x.n:=zyz
def facts (l:List Fact):D:=.list (l.map uh)
@[simp] def aFG (l:List Fact):(facts l).l=l.map uh:=zyz
@[simp] def aFF (l:List Fact):(facts l).cells=[facts l]:=zyz
abbrev Zb:Ty:=.agg [.int .i64,.int .i64,.int .i64]
def Fact.OK (x:Fact):Prop:=aQ x.kind/\aQ x.at_/\aQ x.n
def amI {d:D}(h:DTy Zb d):∃x:Fact,d=uh x/\x.OK:=by
 obtain⟨ds,rfl,hs⟩:=h.agg_inv;obtain⟨d0,ds,rfl,h0,hs⟩:=hs.cons_inv;obtain⟨d1,ds,rfl,h1,hs⟩:=hs.cons_inv;obtain⟨d2,ds,rfl,h2,hs⟩:=hs.cons_inv;obtain rfl:=hs.nil_inv;obtain⟨n0,rfl,b0⟩:=h0.i64_inv;obtain⟨n1,rfl,b1⟩:=h1.i64_inv;obtain⟨n2,rfl,b2⟩:=h2.i64_inv;exact⟨⟨n0,n1,n2⟩,rfl,⟨b0,b1,b2⟩⟩
def amJ {d:D}(h:DTy (.slice Zb) d):∃l:List Fact,d=facts l/\l.length<=maxLen/\∀y,y∈l->Fact.OK y:=by
 obtain⟨xs,rfl,hm,hx⟩:=h.slice_inv;obtain⟨l,rfl,hl⟩:=kQ (enc:=uh) (P:=Fact.OK) λx hh=>amI (hx x hh);exact⟨l,rfl,by simpa using hm,hl⟩
structure File where
 bill:Bill
 signs:List Sign
 alters:List Alter
 acts:List Act
 facts:List Fact
 deriving Inhabited
abbrev wd (x:File):List D:=[.int x.bill.drawer,.int x.bill.drawee,.int x.bill.payee,.int x.bill.sum,.int x.bill.currency,.int x.bill.tenor.kind,.int x.bill.tenor.n,.int x.bill.tenor.unit,.int x.bill.day,.int x.bill.city,.int x.bill.pay,.int x.bill.need,.int x.bill.rate,.int x.bill.flags,.int x.bill.parts,signs x.signs,alters x.alters,acts x.acts,facts x.facts]
def aS (x:File):D:=.agg (wd x)
@[simp] def aCI (x:File):(aS x).cells=(wd x):=zyz
@[simp] def aGR (x:File):D.agg (wd x)=aS x:=zyz
@[simp] def aD2 (x:File):lf 19 (aS x)=aS x:=zyz
@[simp] def aHf (x:File)(a0 a1 a2 a3 a4 a5 a6 a7 a8 a9 nv pz pA pB pC sA sB sC tR:D):D.agg (bH [a0,a1,a2,a3,a4,a5,a6,a7,a8,a9,nv,pz,pA,pB,pC,sA,sB,sC,tR] 0 (wd x))=aS x:=zyz
@[simp] def aCp (x:File):(aS x).c 0=.int x.bill.drawer:=zyz
@[simp] def aCq (x:File):(aS x).c 1=.int x.bill.drawee:=zyz
@[simp] def aCA (x:File):(aS x).c 2=.int x.bill.payee:=zyz
@[simp] def aCB (x:File):(aS x).c 3=.int x.bill.sum:=zyz
@[simp] def aCC (x:File):(aS x).c 4=.int x.bill.currency:=zyz
@[simp] def aCD (x:File):(aS x).c 5=.int x.bill.tenor.kind:=zyz
@[simp] def aCE (x:File):(aS x).c 6=.int x.bill.tenor.n:=zyz
@[simp] def aCF (x:File):(aS x).c 7=.int x.bill.tenor.unit:=zyz
@[simp] def aCG (x:File):(aS x).c 8=.int x.bill.day:=zyz
@[simp] def aCH (x:File):(aS x).c 9=.int x.bill.city:=zyz
@[simp] def aCr (x:File):(aS x).c 10=.int x.bill.pay:=zyz
@[simp] def aCs (x:File):(aS x).c 11=.int x.bill.need:=zyz
@[simp] def aCt (x:File):(aS x).c 12=.int x.bill.rate:=zyz
@[simp] def aCu (x:File):(aS x).c 13=.int x.bill.flags:=zyz
@[simp] def aCv (x:File):(aS x).c 14=.int x.bill.parts:=zyz
@[simp] def aCw (x:File):(aS x).c 15=signs x.signs:=zyz
@[simp] def aCx (x:File):(aS x).c 16=alters x.alters:=zyz
@[simp] def aCy (x:File):(aS x).c 17=acts x.acts:=zyz
@[simp] def aCz (x:File):(aS x).c 18=facts x.facts:=zyz
abbrev aAX:Ty:=.agg [.int .i64,.int .i64,.int .i64,.int .i64,.int .i64,.int .i64,.int .i64,.int .i64,.int .i64,.int .i64,.int .i64,.int .i64,.int .i64,.int .i64,.int .i64,.slice Zj,.slice YY,.slice YX,.slice Zb]
def File.OK (x:File):Prop:=Bill.OK x.bill/\(x.signs.length<=maxLen/\∀y,y∈x.signs->Sign.OK y)/\(x.alters.length<=maxLen/\∀y,y∈x.alters->Alter.OK y)/\(x.acts.length<=maxLen/\∀y,y∈x.acts->Act.OK y)/\(x.facts.length<=maxLen/\∀y,y∈x.facts->Fact.OK y)
def amK {d:D}(h:DTy aAX d):∃x:File,d=aS x/\x.OK:=by
 obtain⟨ds,rfl,hs⟩:=h.agg_inv;obtain⟨d0,ds,rfl,h0,hs⟩:=hs.cons_inv;obtain⟨d1,ds,rfl,h1,hs⟩:=hs.cons_inv;obtain⟨d2,ds,rfl,h2,hs⟩:=hs.cons_inv;obtain⟨d3,ds,rfl,h3,hs⟩:=hs.cons_inv;obtain⟨d4,ds,rfl,h4,hs⟩:=hs.cons_inv;obtain⟨d5,ds,rfl,h5,hs⟩:=hs.cons_inv;obtain⟨d6,ds,rfl,h6,hs⟩:=hs.cons_inv;obtain⟨d7,ds,rfl,h7,hs⟩:=hs.cons_inv;obtain⟨d8,ds,rfl,h8,hs⟩:=hs.cons_inv;obtain⟨d9,ds,rfl,h9,hs⟩:=hs.cons_inv;obtain⟨d10,ds,rfl,gL,hs⟩:=hs.cons_inv;obtain⟨d11,ds,rfl,mD,hs⟩:=hs.cons_inv;obtain⟨d12,ds,rfl,BX,hs⟩:=hs.cons_inv;obtain⟨d13,ds,rfl,h13,hs⟩:=hs.cons_inv;obtain⟨d14,ds,rfl,h14,hs⟩:=hs.cons_inv;obtain⟨d15,ds,rfl,KO,hs⟩:=hs.cons_inv;obtain⟨d16,ds,rfl,KP,hs⟩:=hs.cons_inv;obtain⟨d17,ds,rfl,KQ,hs⟩:=hs.cons_inv;obtain⟨d18,ds,rfl,KR,hs⟩:=hs.cons_inv;obtain rfl:=hs.nil_inv;obtain⟨n0,rfl,b0⟩:=h0.i64_inv;obtain⟨n1,rfl,b1⟩:=h1.i64_inv;obtain⟨n2,rfl,b2⟩:=h2.i64_inv;obtain⟨n3,rfl,b3⟩:=h3.i64_inv;obtain⟨n4,rfl,b4⟩:=h4.i64_inv;obtain⟨n5,rfl,b5⟩:=h5.i64_inv;obtain⟨n6,rfl,b6⟩:=h6.i64_inv;obtain⟨n7,rfl,b7⟩:=h7.i64_inv;obtain⟨n8,rfl,b8⟩:=h8.i64_inv;obtain⟨n9,rfl,b9⟩:=h9.i64_inv;obtain⟨n10,rfl,b10⟩:=gL.i64_inv;obtain⟨n11,rfl,b11⟩:=mD.i64_inv;obtain⟨n12,rfl,b12⟩:=BX.i64_inv;obtain⟨n13,rfl,b13⟩:=h13.i64_inv;obtain⟨n14,rfl,b14⟩:=h14.i64_inv;obtain⟨n15,rfl,b15,c15⟩:=axA KO;obtain⟨n16,rfl,b16,c16⟩:=akk KP;obtain⟨n17,rfl,b17,c17⟩:=akc KQ;obtain⟨n18,rfl,b18,c18⟩:=amJ KR;exact⟨⟨⟨n0,n1,n2,n3,n4,⟨n5,n6,n7⟩,n8,n9,n10,n11,n12,n13,n14⟩,n15,n16,n17,n18⟩,rfl,⟨⟨b0,b1,b2,b3,b4,⟨b5,b6,b7⟩,b8,b9,b10,b11,b12,b13,b14⟩,⟨b15,c15⟩,⟨b16,c16⟩,⟨b17,c17⟩,⟨b18,c18⟩⟩⟩
structure Case where
 file:File
 sign:Int
 holder:Int
 defence:Int
 due:Int
 day:Int
 deriving Inhabited
def eZ (x:Case):D:=.agg [.int x.file.bill.drawer,.int x.file.bill.drawee,.int x.file.bill.payee,.int x.file.bill.sum,.int x.file.bill.currency,.int x.file.bill.tenor.kind,.int x.file.bill.tenor.n,.int x.file.bill.tenor.unit,.int x.file.bill.day,.int x.file.bill.city,.int x.file.bill.pay,.int x.file.bill.need,.int x.file.bill.rate,.int x.file.bill.flags,.int x.file.bill.parts,signs x.file.signs,alters x.file.alters,acts x.file.acts,facts x.file.facts,.int x.sign,.int x.holder,.int x.defence,.int x.due,.int x.day]
@[simp] def aB5 (x:Case):(eZ x).cells=[.int x.file.bill.drawer,.int x.file.bill.drawee,.int x.file.bill.payee,.int x.file.bill.sum,.int x.file.bill.currency,.int x.file.bill.tenor.kind,.int x.file.bill.tenor.n,.int x.file.bill.tenor.unit,.int x.file.bill.day,.int x.file.bill.city,.int x.file.bill.pay,.int x.file.bill.need,.int x.file.bill.rate,.int x.file.bill.flags,.int x.file.bill.parts,signs x.file.signs,alters x.file.alters,acts x.file.acts,facts x.file.facts,.int x.sign,.int x.holder,.int x.defence,.int x.due,.int x.day]:=zyz
@[simp] def aGL (x:Case):D.agg [.int x.file.bill.drawer,.int x.file.bill.drawee,.int x.file.bill.payee,.int x.file.bill.sum,.int x.file.bill.currency,.int x.file.bill.tenor.kind,.int x.file.bill.tenor.n,.int x.file.bill.tenor.unit,.int x.file.bill.day,.int x.file.bill.city,.int x.file.bill.pay,.int x.file.bill.need,.int x.file.bill.rate,.int x.file.bill.flags,.int x.file.bill.parts,signs x.file.signs,alters x.file.alters,acts x.file.acts,facts x.file.facts,.int x.sign,.int x.holder,.int x.defence,.int x.due,.int x.day]=eZ x:=zyz
@[simp] def aki (x:Case):lf 24 (eZ x)=eZ x:=zyz
@[simp] def avb (x:Case)(a0 a1 a2 a3 a4 a5 a6 a7 a8 a9 nv pz pA pB pC sA sB sC tR a19 a20 a21 a22 a23:D):D.agg (bH [a0,a1,a2,a3,a4,a5,a6,a7,a8,a9,nv,pz,pA,pB,pC,sA,sB,sC,tR,a19,a20,a21,a22,a23] 0 [.int x.file.bill.drawer,.int x.file.bill.drawee,.int x.file.bill.payee,.int x.file.bill.sum,.int x.file.bill.currency,.int x.file.bill.tenor.kind,.int x.file.bill.tenor.n,.int x.file.bill.tenor.unit,.int x.file.bill.day,.int x.file.bill.city,.int x.file.bill.pay,.int x.file.bill.need,.int x.file.bill.rate,.int x.file.bill.flags,.int x.file.bill.parts,signs x.file.signs,alters x.file.alters,acts x.file.acts,facts x.file.facts,.int x.sign,.int x.holder,.int x.defence,.int x.due,.int x.day])=eZ x:=zyz
@[simp] def aB4 (x:Case):(eZ x).c 9=.int x.file.bill.city:=zyz
@[simp] def aBX (x:Case):(eZ x).c 10=.int x.file.bill.pay:=zyz
@[simp] def aBY (x:Case):(eZ x).c 15=signs x.file.signs:=zyz
@[simp] def aBZ (x:Case):(eZ x).c 19=.int x.sign:=zyz
@[simp] def aB0 (x:Case):(eZ x).c 20=.int x.holder:=zyz
@[simp] def aB1 (x:Case):(eZ x).c 21=.int x.defence:=zyz
@[simp] def aB2 (x:Case):(eZ x).c 22=.int x.due:=zyz
@[simp] def aB3 (x:Case):(eZ x).c 23=.int x.day:=zyz
def cases(l:List Case):D:=.list (l.map eZ)
structure Cell where
 known:Bool
 n:Int
 deriving DecidableEq,Inhabited
def cv (x:Cell):D:=.agg [.bool x.known,.int x.n]
@[simp] def aB8 (x:Cell):(cv x).cells=[.bool x.known,.int x.n]:=zyz
@[simp] def aGM (x:Cell):D.agg [.bool x.known,.int x.n]=cv x:=zyz
@[simp] def aB6 (x:Cell):(cv x).c 0=.bool x.known:=zyz
@[simp] def aB7 (x:Cell):(cv x).c 1=.int x.n:=zyz
def cells (l:List Cell):D:=.list (l.map cv)
@[simp] def aEq (l:List Cell):(cells l).l=l.map cv:=zyz
@[simp] def aEp (l:List Cell):(cells l).cells=[cells l]:=zyz
structure Said where
 cell:Cell
 order:Int
 path:List Int
 err:Int
 deriving Inhabited
def nB (x:Said):D:=.agg [.bool x.cell.known,.int x.cell.n,.int x.order,ints x.path,.int x.err]
@[simp] def aDq (x:Said):(nB x).cells=[.bool x.cell.known,.int x.cell.n,.int x.order,ints x.path,.int x.err]:=zyz
@[simp] def aG1 (x:Said):D.agg [.bool x.cell.known,.int x.cell.n,.int x.order,ints x.path,.int x.err]=nB x:=zyz
@[simp] def aD6 (x:Said):lf 5 (nB x)=nB x:=zyz
@[simp] def aDp (x:Said):(nB x).c 4=.int x.err:=zyz
@[simp] def aHP (a0 x0:D):bH [a0] 0 [x0]=[x0]:=zyz
@[simp] def aHQ (a0 a1 x0 x1:D):bH [a0,a1] 0 [x0,x1]=[x0,x1]:=zyz
@[simp] def aHR (a0 a1 a2 x0 x1 x2:D):bH [a0,a1,a2] 0 [x0,x1,x2]=[x0,x1,x2]:=zyz
@[simp] def aHS (a0 a1 a2 a3 x0 x1 x2 x3:D):bH [a0,a1,a2,a3] 0 [x0,x1,x2,x3]=[x0,x1,x2,x3]:=zyz
@[simp] def aHT (a0 a1 a2 a3 a4 x0 x1 x2 x3 x4:D):bH [a0,a1,a2,a3,a4] 0 [x0,x1,x2,x3,x4]=[x0,x1,x2,x3,x4]:=zyz
@[simp] def aHU (a0 a1 a2 a3 a4 a5 x0 x1 x2 x3 x4 x5:D):bH [a0,a1,a2,a3,a4,a5] 0 [x0,x1,x2,x3,x4,x5]=[x0,x1,x2,x3,x4,x5]:=zyz
@[simp] def aHV (a0 a1 a2 a3 a4 a5 a6 a7 a8 x0 x1 x2 x3 x4 x5 x6 x7 x8:D):bH [a0,a1,a2,a3,a4,a5,a6,a7,a8] 0 [x0,x1,x2,x3,x4,x5,x6,x7,x8]=[x0,x1,x2,x3,x4,x5,x6,x7,x8]:=zyz
end Rm
set_option maxRecDepth 100000
namespace Rm
open Go Go.Proofs Cx
abbrev I:Ty:=.int .i64
abbrev Y0:Ty:=.agg [.str,I,I,(.slice I),(.slice I),(.slice I)]
abbrev Y1:Ty:=.agg [I]
abbrev Y2:Ty:=.agg [.str,I,I]
abbrev Y3:Ty:=.agg [I,I,.bool]
abbrev Y4:Ty:=.agg [I,I,I,(.slice .trm)]
abbrev Y5:Ty:=.agg [.str,.bool,(.slice Y3),(.slice Y4)]
abbrev Y6:Ty:=.agg [I,I,I]
abbrev Y7:Ty:=.agg [I,I,I,I,I]
abbrev Y8:Ty:=.agg [(.slice .str),(.slice Y0),(.slice Y1),(.slice Y2),(.slice Y5),(.slice Y6),(.slice Y7),(.slice Y6)]
abbrev Y9:Ty:=.agg [I,I,I,I,I,I,I,I,I]
abbrev sy:Ty:=.agg [I,I]
abbrev bX:Ty:=.agg [I,I,I,I,I,I,I,I,I,I,I,I,I,I,I,(.slice Y9),(.slice sy),(.slice Y9),(.slice Y6)]
abbrev jd:Ty:=.agg [I,I,I,I,I,(.slice Y3)]
abbrev ZZ:Ty:=.agg [(.slice I),I,I,.bool,I,(.slice I)]
abbrev xV:Ty:=.agg [.bool,I,I,(.slice I),I]
abbrev Iv:Ty:=.agg [I,I,I,I,I,I,I,I,I,I,I,I,I,I,I]
abbrev ns:Ty:=.agg [I,I,I,I,I,I,I,I,I,I,I,I,I,I,I,(.slice Y9),(.slice sy),(.slice Y9),(.slice Y6),I,I,I,I,I]
abbrev nu:Ty:=.agg [I,I,(.slice .trm)]
abbrev dT:Ty:=.agg [.bool,I]
abbrev Z0:Ty:=.agg [(.slice dT)]
abbrev Y20:Ty:=.agg [(.slice I),I]
abbrev zzw (a:List Ty)(r:Ty):Sig:=⟨a,r,.dat⟩
def xu:List (Nat×Sig):=[
 (3,zzw [Y8,I,bX,jd,I] .bool),
 (4,zzw [] .bool),
 (5,zzw [Y8,bX,jd] .bool),
 (6,zzw [Y8,I,bX,jd,I] (.tup [bX,I])),
 (7,zzw [Y8,I,bX,jd,I] (.tup [bX,I])),
 (8,zzw [Y8,bX,jd] I),
 (9,zzw [Y8,bX,jd] I),
 (10,zzw [Y8,I,bX,jd,I] I),
 (11,zzw [Y8,I,bX,jd,I] I),
 (12,zzw [bX,bX] .bool),
 (13,zzw [] (.tup [Y8,bX,jd])),
 (14,zzw [Y8,bX] .bool),
 (15,zzw [Y8] I),
 (16,zzw [bX,I,I] ZZ),
 (17,⟨[bX,I],bX,(.rows [.dat I,.dat I,.dat I,.dat I,.dat I,.dat I,.dat I,.dat I,.dat I,.dat I,.dat I,.dat I,.dat I,.dat I,.dat I,.row 68 Y9,.row 90 sy,.row 59 Y9,.row 92 Y6])⟩),
 (18,zzw [(.slice I),I] .bool),
 (19,zzw [bX,I,I] .bool),
 (20,zzw [bX,I,I] ZZ),
 (21,⟨[bX,I],bX,(.rows [.dat I,.dat I,.dat I,.dat I,.dat I,.dat I,.dat I,.dat I,.dat I,.dat I,.dat I,.dat I,.dat I,.dat I,.dat I,.row 68 Y9,.row 90 sy,.row 59 Y9,.row 92 Y6])⟩),
 (22,⟨[bX,I,I],(.slice I),(.row 3 I)⟩),
 (23,zzw [(.slice I),I] .bool),
 (24,zzw [Y8,bX] I),
 (25,zzw [Y3,(.ref Y8)] .bool),
 (26,zzw [Y8,I] .bool),
 (27,zzw [(.ref jd),(.ref bX)] .bool),
 (28,zzw [(.ref Y8),(.ref jd)] .bool),
 (29,zzw [(.ref jd)] .bool),
 (30,zzw [(.ref jd),(.ref (.fn [Y3] .bool))] .bool),
 (31,zzw [(.slice Y3),(.fn [Y3] .bool)] .bool),
 (32,zzw [(.ref bX),(.ref jd)] .bool),
 (33,zzw [bX,jd] .bool),
 (34,zzw [Y8,bX] I),
 (35,zzw [xV] I),
 (36,zzw [Y8,I,I,bX,I] xV),
 (37,zzw [Y8,I,bX,jd] (.tup [I,.bool])),
 (38,zzw [Y8] .bool),
 (39,zzw [bX] .bool),
 (40,zzw [Y5] .bool),
 (41,zzw [Y8] I),
 (42,zzw [Y8] I),
 (43,zzw [Y8] I),
 (44,zzw [Y8] I),
 (45,zzw [Y8] I),
 (46,zzw [bX,I] (.tup [I,.bool])),
 (47,zzw [bX,I,I] (.fn [(.fn [I,Y9] .bool)] (.tup []))),
 (48,zzw [I,I] I),
 (49,zzw [I,I] .bool),
 (50,zzw [(.slice I),I] I),
 (51,zzw [bX,I] (.map I .bool)),
 (52,zzw [I,I] I),
 (53,zzw [bX,I,I] .bool),
 (54,zzw [bX,I,I] .bool),
 (55,zzw [Y8,Iv] I),
 (56,zzw [Y8,bX,I] I),
 (57,zzw [I,I,I] .bool),
 (58,zzw [Y8,bX] I),
 (59,zzw [bX] I),
 (60,zzw [(.slice Y3),(.fn [Y3] .bool)] I),
 (61,zzw [Y8,Iv] I),
 (62,zzw [Y8,bX,I] I),
 (63,zzw [I,I,I] .bool),
 (64,zzw [Y8,bX,I] I),
 (65,zzw [bX,I] I),
 (66,zzw [Y8,I,I,ns] xV),
 (67,zzw [xV] I),
 (68,zzw [Y8,I,I,bX,I] xV),
 (69,zzw [nu] .bool),
 (70,zzw [(.slice .str),I] I),
 (71,zzw [Y8,Y0] .bool),
 (72,zzw [Y5] .bool),
 (74,zzw [Y8] I),
 (75,zzw [I,I] .bool),
 (76,zzw [Iv] .bool),
 (77,zzw [Y8,I,I] (.tup [I,I])),
 (78,zzw [Y8,bX,I] .bool),
 (79,zzw [Y8,bX,Y9] .bool),
 (80,zzw [(.slice I)] I),
 (81,zzw [I,I] I),
 (82,zzw [I,I] .bool),
 (83,zzw [I,I] .bool),
 (84,zzw [I] .bool),
 (85,zzw [Iv] .bool),
 (86,zzw [Y8,I,I] (.tup [I,I])),
 (87,zzw [Y8,bX,I] .bool),
 (88,zzw [Y8,bX,Y9] .bool),
 (89,zzw [Y8,I,I,ns] (.tup [xV,(.slice dT)])),
 (90,zzw [Y5,I,(.slice dT)] (.tup [dT,I])),
 (91,zzw [Y8,I,I,ns] xV),
 (92,zzw [nu,I,I] I),
 (93,zzw [.str] .bool),
 (94,zzw [(.slice .str),I,.str] .bool),
 (95,zzw [(.slice I),I,I] .bool),
 (96,zzw [Y8] (.tup [(.slice .str),(.slice .str),(.slice .str)])),
 (97,zzw [(.slice .str),I,(.fn [I] .bool)] I),
 (98,zzw [I] .bool),
 (99,zzw [I,(.ref Y8)] .bool),
 (100,zzw [Y8,Y0] .bool),
 (101,zzw [I,I] .bool),
 (102,zzw [I,(.ref Y8)] .bool),
 (103,zzw [I,(.ref Y8)] .bool),
 (104,zzw [Y5] .bool),
 (105,zzw [Y8] I),
 (106,zzw [Y8] I),
 (107,zzw [bX,I,(.slice I)] .bool),
 (108,zzw [bX,I,I] .bool),
 (109,zzw [I] .bool),
 (110,zzw [bX,I] .bool),
 (111,zzw [bX,I,I] .bool),
 (112,zzw [Y8,ns] (.tup [ns,(.slice dT)])),
 (113,zzw [I] (.tup [I,.bool])),
 (114,zzw [Y8,I,ns] (.nsl I)),
 (115,zzw [Y8,I,I,(.slice I)] (.tup [(.slice I),I])),
 (116,zzw [Y5,I] (.tup [nu,I])),
 (117,zzw [nu,(.slice dT)] dT),
 (118,zzw [Y8,I,ns] (.slice I)),
 (119,zzw [I] .bool),
 (120,zzw [Y8,I,I,(.slice I)] (.tup [(.slice I),I])),
 (121,zzw [Y5,I,(.slice dT)] (.tup [dT,I])),
 (122,zzw [Y8,ns] (.slice dT)),
 (123,zzw [(.int .u8)] .bool),
 (124,zzw [(.slice .str),I] I),
 (125,zzw [(.slice I),I,I] .bool),
 (126,zzw [Y8,ns] (.slice dT)),
 (127,zzw [Y8,I] I),
 (128,zzw [Y8,I,I,(.slice I)] .bool),
 (129,zzw [Y8,I,I,(.slice I)] (.tup [I,.bool])),
 (130,zzw [(.slice Y4),(.fn [Y4] .bool)] I),
 (131,zzw [Y4,(.ref I)] .bool),
 (132,zzw [nu] (.tup [I,I])),
 (133,zzw [Z0,nu] (.tup [dT,(.slice I)])),
 (134,zzw [Y8,I] I),
 (135,zzw [Y8,(.slice I)] .bool),
 (136,zzw [Y8,I,I,(.slice I)] (.tup [I,.bool])),
 (137,zzw [Y5,I] I),
 (138,zzw [nu,(.slice dT)] dT),
 (139,zzw [Y5,I] I),
 (140,zzw [I] .bool),
 (141,zzw [Y8,ns] (.slice dT)),
 (142,zzw [.str] .bool),
 (143,zzw [(.slice .str),.str] .bool),
 (144,zzw [(.slice sy),(.fn [sy] .bool)] .bool),
 (145,zzw [sy,(.ref ns)] .bool),
 (146,zzw [.bool] dT),
 (147,zzw [bX,I,I] dT),
 (148,zzw [(.slice I),(.fn [I] .bool)] .bool),
 (149,zzw [I,(.ref I)] .bool),
 (150,zzw [nu,I] I),
 (151,zzw [nu] (.tup [I,I])),
 (152,zzw [Z0,I] dT),
 (153,zzw [I,(.slice dT)] dT),
 (154,zzw [(.slice (.slice I))] (.slice I)),
 (155,zzw [Y5,I] Y3),
 (156,zzw [nu] (.tup [I,I])),
 (157,zzw [I] (.tup [I,.bool])),
 (158,zzw [nu,(.slice dT)] dT),
 (159,zzw [I] dT),
 (160,zzw [.bool] dT),
 (161,zzw [I,I] .bool),
 (162,zzw [bX,I,I] dT),
 (163,zzw [(.slice .str),.str] I),
 (164,zzw [(.slice sy),(.fn [sy] .bool)] I),
 (165,zzw [(.slice I),(.fn [I] .bool)] I),
 (166,zzw [nu] (.tup [I,I])),
 (167,zzw [I] Y20),
 (168,zzw [I] (.tup [I,.bool])),
 (169,zzw [.bool] dT),
 (170,zzw [I] I),
 (171,zzw [I,I,I] I),
 (172,⟨[.nils .bool,I],(.slice I),(.row 3 I)⟩),
 (173,zzw [nu] (.tup [I,I])),
 (174,zzw [I,(.slice dT)] dT),
 (175,zzw [dT,dT,I] dT),
 (176,zzw [I,I,I] dT),
 (177,zzw [I,I] I),
 (178,zzw [I] I),
 (179,zzw [nu] (.tup [I,I])),
 (180,zzw [I,(.slice I)] (.tup [I,.bool])),
 (181,zzw [I] (.tup [I,.bool])),
 (182,zzw [I] I),
 (183,zzw [.bool] dT),
 (184,zzw [I,I] I),
 (185,zzw [(.int .u64),(.int .u64)] (.tup [(.int .u64),(.int .u64)]))]
def P5:List (Nat×CSig):=[
 (25,⟨[(.ref Y8)],[Y3],.bool⟩),
 (27,⟨[(.ref jd),(.ref bX)],[],.bool⟩),
 (28,⟨[(.ref Y8),(.ref jd)],[],.bool⟩),
 (29,⟨[(.ref jd)],[],.bool⟩),
 (30,⟨[(.ref jd),(.ref (.fn [Y3] .bool))],[],.bool⟩),
 (32,⟨[(.ref bX),(.ref jd)],[],.bool⟩),
 (73,⟨[(.ref bX),(.ref I),(.ref I)],[(.fn [I,Y9] .bool)],(.tup [])⟩),
 (98,⟨[],[I],.bool⟩),
 (99,⟨[(.ref Y8)],[I],.bool⟩),
 (102,⟨[(.ref Y8)],[I],.bool⟩),
 (103,⟨[(.ref Y8)],[I],.bool⟩),
 (131,⟨[(.ref I)],[Y4],.bool⟩),
 (145,⟨[(.ref ns)],[sy],.bool⟩),
 (149,⟨[(.ref I)],[I],.bool⟩)]
def ctx:Ctx:={P:=Tryz.prog,cap:=bS P5,sig:=bS xu,at0:=λ_=>none,glob:=We 0 [6,7,10,12,13,14,15,16,20,21]}
abbrev NT (i:Nat):Sig:=(bS xu i).getD default
def cF (a b:List Nat)(f:Func)(i:Nat)(l:List Nat):Option PC:=nA {ctx with fr:=a,nh:=b} f (NT i) l
def aO {o:Option PC}{t:PT}{l:List (Shp×PT)}(h:o.map told=some (t,l)):tree (ae o)=t:=bA (F:=λ_=>(t,l)) h
def ax (o:Option PC){p:PT×List (Shp×PT)}(h:o.map told=some p):o=some (ae o):=ax0 (F:=λ_=>p) h
def az (l a b:List Nat){f:Nat}{fn:Func}{c:PC}(h0:ctx.P.funcs[f]?=some fn)(h1:ctx.sig f=some (NT f))(h2:nA {ctx with fr:=a,nh:=b} fn (NT f) l=some c):∃fn s ids fr nh,ctx.P.funcs[f]?=some fn/\ctx.sig f=some s/\nA {ctx with fr:=fr,nh:=nh} fn s ids=some c:=⟨fn,NT f,l,a,b,h0,h1,h2⟩
abbrev mf:PE:=.con (.agg [(.int 0),(.int 0),(.int 0),(.int 0),(.int 0),(.int 0),(.int 0),(.int 0),(.int 0),(.int 0),(.int 0),(.int 0),(.int 0),(.int 0),(.int 0),(.list []),(.list []),(.list []),(.list [])])
abbrev GM:PE:=.setc (.con (.agg [(.list []),(.list []),(.list []),(.list []),(.list []),(.list []),(.list []),(.list [])])) 0 (.mk [(.lst [(.con (.v (.string ⟨#[102,114,97,110,99]⟩)))]),(.lst [(.mk [(.con (.v (.string ⟨#[76,121,111,110]⟩))),(pi 0),(pi 0),pL,pL,pL])]),(.lst [(.mk [(pi 0)])]),(.lst [(.mk [(.con (.v (.string ⟨#[66,111,100,109,101,114]⟩))),(pi 0),(pi 0)]),(.mk [(.con (.v (.string ⟨#[72,111,112,101]⟩))),(pi 0),(pi 0)]),(.mk [(.con (.v (.string ⟨#[82,105,99,99,105]⟩))),(pi 0),(pi 0)])]),(.lst [(.mk [(pc (.setc (.con (.agg [(.v (.string ⟨#[]⟩)),(.bool false),(.list []),(.list [])])) 0 (.mk [(.con (.v (.string ⟨#[103,101,110,101,118,97]⟩))),pF,pL,(.lst [(.mk [(pi 20),(.mk [(pi 0),(pi 30),pL])])])])) 0),(pc (.setc (.con (.agg [(.v (.string ⟨#[]⟩)),(.bool false),(.list []),(.list [])])) 0 (.mk [(.con (.v (.string ⟨#[103,101,110,101,118,97]⟩))),pF,pL,(.lst [(.mk [(pi 20),(.mk [(pi 0),(pi 30),pL])])])])) 1),pL,(pc (.setc (.con (.agg [(.v (.string ⟨#[]⟩)),(.bool false),(.list []),(.list [])])) 0 (.mk [(.con (.v (.string ⟨#[103,101,110,101,118,97]⟩))),pF,pL,(.lst [(.mk [(pi 20),(.mk [(pi 0),(pi 30),pL])])])])) 3)])]),pL,pL,pL])
abbrev cU:PE:=.con (.agg [(.bool false),(.int 0)])
abbrev mS:PE:=.setc (.setc (.setc mf 0 (.mk [(.mk [(pi 0),(pi 1),(pi 2),(pi 500),(pi 0),z3,(pi 2),(pi 0),(pi 0),(pi (-1)),(pi 0),(pi 0),(pi 1)]),pL,pL,pL,pL])) 15 pN) 15 pN
abbrev MV:PE:=.mk [(pc (.setc bM 0 (.mk [kz,pL,pL,pL,pL])) 0),(pc (.setc bM 0 (.mk [kz,pL,pL,pL,pL])) 1),(pc (.setc bM 0 (.mk [kz,pL,pL,pL,pL])) 2),(pc (.setc bM 0 (.mk [kz,pL,pL,pL,pL])) 3),(pc (.setc bM 0 (.mk [kz,pL,pL,pL,pL])) 4),(pc (.setc bM 0 (.mk [kz,pL,pL,pL,pL])) 5),(pc (.setc bM 0 (.mk [kz,pL,pL,pL,pL])) 6),(pc (.setc bM 0 (.mk [kz,pL,pL,pL,pL])) 7),(pc (.setc bM 0 (.mk [kz,pL,pL,pL,pL])) 8),(pc (.setc bM 0 (.mk [kz,pL,pL,pL,pL])) 9),(pc (.setc bM 0 (.mk [kz,pL,pL,pL,pL])) 10),(pc (.setc bM 0 (.mk [kz,pL,pL,pL,pL])) 11),(pc (.setc bM 0 (.mk [kz,pL,pL,pL,pL])) 12),(pc (.setc bM 0 (.mk [kz,pL,pL,pL,pL])) 13),(pc (.setc bM 0 (.mk [kz,pL,pL,pL,pL])) 14),pL,pL,pL,pL]
abbrev ga:PE:=.setc z3 0 (.mk [(pc (.mk [r0]) 5),(pc (.mk [r0]) 6),(pc (.mk [r0]) 7)])
abbrev tp:PE:=.deref (.con (.ref (.agg [(.int 6),(.int 7),(.int 10),(.int 12),(.int 13),(.int 14),(.int 15),(.int 16),(.int 20),(.int 21)])))
abbrev MX:PE:=.put (.put (.put (.put (.con (.map [])) (pi 7) (aH (.ai .and .i64 (pc o6 13) (pi 1)) (pi 0))) (pi 8) (ab (pc o6 2) (pi (-1)))) (pi 9) (aH (.ai .and .i64 (pc o6 13) (pi 4)) (pi 0))) (pi 10) (aH (.ai .and .i64 (pc o6 13) (pi 2)) (pi 0))
abbrev mX:PE:=.con (.agg [(.int 0),(.int 0),(.bool false)])
abbrev MJ:PE:=.pick (.pick lI (.nt rM) pF) (.pick (aR (pc (.pick (af (pc o9 1) (pi 0)) (.setc o9 1 (pi 0)) o9) 1) (pi 20000)) (.setc (.pick (af (pc o9 1) (pi 0)) (.setc o9 1 (pi 0)) o9) 1 (pi 20000)) (.pick (af (pc o9 1) (pi 0)) (.setc o9 1 (pi 0)) o9)) o9
abbrev kS:PE:=.setc (.mk [r3]) 18 pL
abbrev cj:PE:=pi 4294967296
abbrev nO:PE:=.con (.agg [(.int 0),(.int 0),(.list [])])
abbrev vc:PE:=.mk [(pc (.setc o4 0 (.mk [pF,(pi 0)])) 0),(pc (.setc o4 0 (.mk [pF,(pi 0)])) 1)]
abbrev mg:PE:=.setc z9 0 (pn (pc (.mk [r1]) 15) r2)
abbrev xd:PE:=.con (.agg [(.list []),(.int 0),(.int 0),(.bool false),(.int 0),(.list [])])
abbrev ve:PE:=.con (.agg [(.bool false),(.int 0),(.int 0),(.list []),(.int 0)])
abbrev GL:PE:=.setc (.con (.agg [(.int 0),(.int 0),(.int 0),(.int 0),(.int 0),(.list [])])) 0 (.mk [(pi 0),(pi 0),(pi 2),(pi 10),(pi 12),pL])
abbrev mh:PE:=.con (.agg [(.list []),(.int 0)])
abbrev agQ:PE:=.pick (.pick (.pick (ab (pc (.setc z9 0 (pn bG bU)) 0) (pi 2)) (ab (pc (.setc z9 0 (pn bG bU)) 1) (.deref r3)) pF) (bl (pc (.setc z9 0 (pn bG bU)) 6) (.deref r2)) pF) (.nt (.look r5 bU pF)) pF
abbrev mR:PE:=.setc bM 0 (.setc gT 17 pN)
abbrev C4:PE:=.mk [(pc (.setc cU 0 gd) 0),(pc (.setc cU 0 gd) 1)]
abbrev fN:PE:=au 8 (.mk [r0])
abbrev agR:PE:=.lst [(.mk [(.clo 27 [(.ref (au 6 o5)),(.ref (au 19 o4))]),(pi 15)]),(.mk [(.clo 28 [(.ref (au 8 o3)),(.ref (au 6 o5))]),(pi 1)]),(.mk [(.clo 29 [(.ref (au 6 o5))]),(pi 6)]),(.mk [(.clo 30 [(.ref (au 6 o5)),(.ref (pc (.setc (.con (.agg [(.v .nilFunc)])) 0 (.clo 25 [(.ref (au 8 o3))])) 0))]),(pi 1)]),(.mk [(.clo 32 [(.ref (au 19 o4)),(.ref (au 6 o5))]),(pi 13)])]
abbrev C5:PE:=.setc z9 0 (pn (pc (.mk [r2]) 15) (pc (.mk [r2]) 19))
abbrev Uq:PE:=.put (.put (.put (.con (.map [])) (pi 0) (pc o6 3)) (pi 1) (pc o6 14)) (pi 2) (pc o6 5)
abbrev MR:PE:=.pick (.pick (ab (.tget qq 0) (pi 0)) (pc bM 0) pF) (.setc bM 1 (.mn (.mx (pc bM 1) (pi 0)) (pi 20000))) bM
abbrev lF:PE:=pi 1099511627776
abbrev agS:PE:=.mk [(.mk [(pc kS 0),(pc kS 1),(pc kS 2),(pc kS 3),(pc kS 4),(pc kS 5),(pc kS 6),(pc kS 7),(pc kS 8),(pc kS 9),(pc kS 10),(pc kS 11),(pc kS 12),(pc kS 13),(pc kS 14),(pc kS 15),(pc kS 16),(pc kS 17),pL]),(pi 0),(pi (-1)),(pi (-1)),(pi (-1)),r4]
abbrev agT:PE:=.ai .add .u64 (.ai .mul .u64 (.ai .shr .u64 r0 (.con (.v (.int .u64 32)))) (.ai .and .u64 r1 (.con (.v (.int .u64 4294967295))))) (.ai .shr .u64 (.ai .mul .u64 (.ai .and .u64 r0 (.con (.v (.int .u64 4294967295)))) (.ai .and .u64 r1 (.con (.v (.int .u64 4294967295))))) (.con (.v (.int .u64 32))))
abbrev xe:PE:=pc (.mk [r0]) 2
abbrev kq:PE:=au 15 (.mk [r1])
abbrev zK:PE:=.setc (.setc bM 3 (.tget GQ 0)) 4 (.tget GQ 1)
abbrev jT:PE:=pn (pc o3 17) r7
abbrev lG:PE:=pc (.mk [r0]) 0
abbrev xf:PE:=.setc mf 0 (au 19 (.mk [r1]))
abbrev MS:PE:=.mk [(pc (.setc cU 0 (.mk [pF,(pi 0)])) 0),(pc (.setc cU 0 (.mk [pF,(pi 0)])) 1)]
abbrev mi:PE:=au 15 (.mk [r0])
abbrev MT:PE:=.mk [(pc (.setc o6 0 (.mk [pF,(pi 0)])) 0),(pc (.setc o6 0 (.mk [pF,(pi 0)])) 1)]
abbrev MU:PE:=aR (.mx r0 (be (pi 0) r0)) (.ai .quo .i64 lF (.mx r1 (be (pi 0) r1)))
abbrev mj:PE:=pc (.mk [r0]) 15
abbrev ml:PE:=.setc mf 0 iw
abbrev oU:PE:=pc (.mk [r0]) 1
abbrev Ur:PE:=.setc (.setc (.setc o9 3 (.tget kV 0)) 4 (.tget kV 1)) 2 (pn (.tget kV 0) (be (.llen (.tget kV 0)) (pi 1)))
abbrev oV:PE:=pn r1 (pi 0)
abbrev ql:PE:=ab (pc o5 8) (pi 0)
abbrev Us:PE:=.con (.agg [(.list []),(.list []),(.list []),(.list []),(.list []),(.list []),(.list []),(.list [])])
abbrev mT:PE:=.setc bM 0 gT
abbrev mU:PE:=.llen (pc o1 1)
abbrev MW:PE:=.mk [(pc o3 0),(pc o3 1),(pc o3 2),(pc o3 3),(pc o3 4),(.o 24579)]
abbrev nP:PE:=.llen (pc o3 15)
abbrev agU:PE:=.pick (.pick (.pick (aR (.llen (pc (.mk [r1]) 15)) (pi 40)) pT (aR (.llen (pc (.mk [r1]) 16)) (pi 4))) pT (aR (.llen (pc (.mk [r1]) 17)) (pi 100))) pT (aR (.llen (pc (.mk [r1]) 18)) (pi 200))
abbrev Ut:PE:=.mk [(pc (.setc o4 0 (.mk [(pi 0),(pi 0),pL])) 0),(pc (.setc o4 0 (.mk [(pi 0),(pi 0),pL])) 1),pL]
abbrev agV:PE:=.app pL (.lst [(.mk [(pi 0),(pi 0),(pi 0),(pi (-1)),(pi (-1)),(pi 0),(pi 2),(pi 0),(pi 0)])])
abbrev C6:PE:=.pick r7 (ab (pc o5 4) (pi (-1))) pF
abbrev lH:PE:=pn r1 (pi 1)
abbrev nQ:PE:=bt r8 (pi 1)
abbrev zL:PE:=be (.llen (pc o3 3)) (pi 1)
abbrev mV:PE:=.setc o4 0 o7
abbrev mW:PE:=.setc o4 0 o5
abbrev Uu:PE:=.mk [(pc (.setc cU 0 (.mk [pT,(pi 1)])) 0),(pc (.setc cU 0 (.mk [pT,(pi 1)])) 1)]
abbrev Uv:PE:=.mk [(pc (.setc cU 0 (.mk [pT,(pi 0)])) 0),(pc (.setc cU 0 (.mk [pT,(pi 0)])) 1)]
abbrev oW:PE:=.llen (pc o1 3)
abbrev oX:PE:=.llen (pc o1 2)
abbrev Uw:PE:=au 5 (.setc o8 0 (.mk [(pc bM 0),(pc bM 1),(pc bM 2),(.o 16394),(pc bM 4)]))
abbrev qm:PE:=.llen (pc o3 2)
abbrev qn:PE:=.llen (pc o1 4)
abbrev vf:PE:=pn (pc o5 17) (pi 0)
abbrev vg:PE:=ab (pc o5 5) (pi 0)
abbrev agW:PE:=.pick (.pick (ab (.tget iY 0) (.con (.v (.int .u64 0)))) (af (.tget iY 1) (.con (.v (.int .u64 1099511627776)))) pF) (.conv .i64 (.tget iY 1)) lF
abbrev agX:PE:=.pick (.pick (.pick (af (pc C5 2) (pi 0)) pT (bP (pc C5 2) (.llen (pc (.mk [r0]) 3)))) pT (af r1 (pi 0))) pT (bP r1 (.llen (pc (.mk [r0]) 4)))
abbrev rI:PE:=pn (pc o2 15) r5
abbrev rJ:PE:=.llen (pc o3 17)
abbrev Ux:PE:=.put (.con (.map [])) (pi 7) (aH (.ai .and .i64 (pc o6 13) (pi 1)) (pi 0))
abbrev zM:PE:=af r5 (.llen (pc o2 15))
abbrev qo:PE:=bt r5 (pi 1)
abbrev rK:PE:=.llen (pc o4 4)
abbrev C7:PE:=.setc (.setc o7 1 m5) 3 rO
abbrev tq:PE:=.llen (pc o2 17)
abbrev agY:PE:=.app o2 (.lst [(pc (.setc (.con (.agg [(.v (.string ⟨#[]⟩)),(.int 0),(.int 0),(.list []),(.list []),(.list [])])) 0 (pn bG bU)) 0)])
abbrev zN:PE:=ab (pc o5 2) (pi (-1))
abbrev zO:PE:=.setc z9 0 (pn bK dk)
abbrev agZ:PE:=.pick (.pick (bP (pc ga 1) (pi 1)) (bl (pc ga 1) (pi 400)) pF) (.pick (ab (pc ga 2) (pi 0)) pT (ab (pc ga 2) (pi 1))) pF
abbrev ag0:PE:=.app (.o 73741) (.lst [(.mk [(pi 7),(pc o8 2),(pi (-1)),(pc o8 1),(pn bU fh),(pi 0),r4,(pc (pn (pc o5 3) (pc o8 2)) 1),(pi 0)])])
abbrev ag1:PE:=.pick (.nt (.nt (.an (.an agQ pT) (.nt pF)))) (.app (.o 1000) (.lst [(.tup [bU,(au 9 (.setc z9 0 (pn bG bU)))])])) (.o 1000)
abbrev GN:PE:=be (pi 2) (pc (pn o7 (pi 0)) 1)
abbrev ag2:PE:=.pick (ab (pc o5 0) (pi 0)) (ab (pc o5 0) (pi 0)) (.pick (ab (pc o5 0) (pi 1)) (ab (pc o5 0) (pi 1)) (ab (pc o5 0) (pi 2)))
abbrev MY:PE:=.setc nO 0 (.sub (pn (pc o2 3) mZ) 1 3)
abbrev qp:PE:=pn o5 (pi 0)
abbrev vh:PE:=pn (pc o3 15) r5
abbrev vi:PE:=pn (pc o2 17) r7
abbrev rL:PE:=aj r1 (pi 1)
abbrev vj:PE:=pc (.mk [r0]) 18
abbrev vk:PE:=.tget kW 0
abbrev ag3:PE:=.app o4 (.lst [(pc (.setc (.con (.agg [(.v (.string ⟨#[]⟩)),(.bool false),(.list []),(.list [])])) 0 (pn fi m3)) 0)])
abbrev C8:PE:=.con (.v (.int .u64 32))
abbrev ag4:PE:=.app Gr (.lst [(.mk [(pi 7),(pc o8 2),(pi (-1)),(pc o8 1),fh,(pi 0),r4,(pc (pn (pc o5 3) (pc o8 2)) 1),(pi 0)])])
abbrev ag5:PE:=.put (.put (.put MX (pi 11) (aH GP UA)) (pi 12) dk) (pi 13) (aH (.ai .and .i64 (pc o8 8) (pi 1)) (pi 0))
abbrev vl:PE:=pn o5 (pi 1)
abbrev tn:PE:=aj r1 (pi 0)
abbrev MK:PE:=.setc z9 0 (pn (pc o5 15) (pc o5 19))
abbrev ML:PE:=.setc o7 3 (ab (pc o7 1) (pi (-1)))
abbrev MM:PE:=.pick (bP r0 (pi 0)) (af r0 r1) pF
abbrev w8:PE:=.llen (pc o3 18)
abbrev Uf:PE:=.put (.put Uq (pi 3) (pc o6 12)) (pi 4) (pc o8 0)
abbrev agH:PE:=.pick (aR (.llen (pc (pn (pc o1 1) r3) 4)) (pi 70)) pT (aR (.llen (pc (pn (pc o1 1) r3) 5)) (pi 210))
abbrev MN:PE:=.mk [(pc o1 0),(pc o1 1),(pc o1 2)]
abbrev Ug:PE:=.pick (.nt (pc o7 3)) (aH (pc gD 2) (pc o7 1)) pF
abbrev rH:PE:=.llen xe
abbrev agI:PE:=.app o3 (.lst [(pc (.setc (.con (.agg [(.v (.string ⟨#[]⟩)),(.int 0),(.int 0)])) 0 (pn eM gd)) 0)])
abbrev agJ:PE:=.app o4 (.lst [(pc (.setc (.con (.agg [(.int 0),(.int 0),(.int 0),(.list [])])) 0 (pn gd lI)) 0)])
abbrev w9:PE:=.llen (pc o1 0)
abbrev agK:PE:=.app (.o 69637) (.lst [(.mk [(pc (.setc z2 0 (pn rO rP)) 0),(pc (.setc z2 0 (pn rO rP)) 1)])])
abbrev vb:PE:=ab r5 (pi 0)
abbrev GG:PE:=.setc mX 0 (pn mZ eM)
abbrev Uh:PE:=.setc z9 0 (pn (pc xf 15) (pc (.mk [r1]) 19))
abbrev Ui:PE:=.setc o4 0 (.mk [(pc o9 0),(pc o9 1),(pc o9 2)])
abbrev agL:PE:=.app agV (.lst [(.mk [(pi 2),(pi 0),(pi 2),(pi (-1)),(pi 1),(pi 0),(pi 20),(pi 0),(pi 0)])])
abbrev GH:PE:=aH (pc o3 22) (pi (-1))
abbrev GI:PE:=aR (pc gD 6) (pc o8 0)
abbrev agM:PE:=.setc (.con (.agg [(.int 0),(.int 0),(.int 0),(.int 0),(.int 0),(.list [])])) 0 (.tget bG 2)
abbrev xb:PE:=bt r7 (pi 1)
abbrev xc:PE:=bt r3 (pi 1)
abbrev Uj:PE:=ab (pc (pn (pc o4 15) (pc o5 4)) 2) (pc o5 1)
abbrev MO:PE:=.setc mX 0 (pn (pc o5 5) bI)
abbrev zC:PE:=.setc cU 0 kU
abbrev zD:PE:=.llen (pc o2 18)
abbrev zE:PE:=.llen (pc o2 16)
abbrev agN:PE:=.setc o4 0 (.mk [(pc (.setc cU 0 (.tget mY 0)) 0),(pc (.setc cU 0 (.tget mY 0)) 1)])
abbrev GJ:PE:=.mk [lG,oU,xe]
abbrev GK:PE:=.app gD (.lst [vk])
abbrev MQ:PE:=pc (pn (pc o4 15) (pc o7 3)) 0
abbrev CY:PE:=.rep (pi 5) (pi 0)
abbrev zG:PE:=pn (pc o1 4) r4
abbrev Uk:PE:=ab (.sidx r0 r3) (.con (.v (.int .u8 95)))
abbrev Ul:PE:=.setc z3 0 (pn (pc o2 18) (be r1 (pi 1)))
abbrev Um:PE:=.pick (pc vl 0) (pc (pn o5 (pi 2)) 0) pF
abbrev zH:PE:=.llen (pc o2 3)
abbrev zI:PE:=.llen (pc o1 7)
abbrev Un:PE:=.an (bP (pi 5) (pi 0)) (bl (pi 5) cj)
abbrev vd:PE:=af bU dk
abbrev Uo:PE:=.app o5 (.lst [(pc (pn (pc o1 1) r6) 0)])
abbrev Up:PE:=.app o4 (.lst [(pc (pn (pc o1 3) r5) 0)])
abbrev agO:PE:=.an (.cb .eql (pc oV 0) (pc C4 0)) (.an (ab (pc oV 1) (pc C4 1)) pT)
abbrev zJ:PE:=be r2 (pi 1)
abbrev CZ:PE:=ab oV (pi 1)
abbrev C0:PE:=pc (.mk [r1]) 17
abbrev C1:PE:=pc (.mk [r1]) 15
abbrev C2:PE:=pc (.mk [r0]) 17
abbrev C3:PE:=.llen (pc o3 16)
abbrev agP:PE:=.pick (ab (pc o5 0) (pi 7)) (ab (pc o5 0) (pi 7)) (ab (pc o5 0) (pi 8))
end Rm
