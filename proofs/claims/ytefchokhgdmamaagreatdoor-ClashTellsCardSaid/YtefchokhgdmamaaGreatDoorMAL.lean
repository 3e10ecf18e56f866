/-
  What comes in as Lean's own data: realms, files, cases.
-/
import Derived.Test.YtefchokhgdmamaaGreatDoorMAJ
set_option linter.defProp false
set_option linter.unusedSimpArgs false
set_option linter.unusedVariables false
namespace Rm
open Go Cx
abbrev str (b:ByteArray):D:=.v (.string b)
def strs (l:List ByteArray):D:=.list (l.map str)
@[simp] def aDQ (l:List ByteArray):(strs l).l=l.map str:=zyy
def str_inv {d:D}(h:DTy .str d):∃b,d=str b:=by
 cases h with
 |str b=>exact⟨b,rfl⟩
 |other t d h=>exact h.elim
def auv {d:D}(h:DTy (.slice .str) d):∃l:List ByteArray,d=strs l/\l.length<=maxLen:=by
 obtain⟨xs,rfl,hm,hx⟩:=h.slice_inv;obtain⟨l,rfl,hl⟩:=lE (enc:=str) (P:=λ_=>True) λx hh=>(str_inv (hx x hh)).imp λb hb=>⟨hb,trivial⟩
 exact⟨l,rfl,by simpa using hm⟩
@[simp] def azH (t:Tm):(dB t).cells=[.int t.op,.int t.n,.list (t.args.map dB)]:=by rw[D5];rfl
@[simp] def azI (t:Tm):D.agg [.int t.op,.int t.n,.list (t.args.map dB)]=dB t:=(D5 t).symm
@[simp] def azE (t:Tm):(dB t).c 0=.int t.op:=by rw[D5];rfl
@[simp] def azF (t:Tm):(dB t).c 1=.int t.n:=by rw[D5];rfl
@[simp] def azG (t:Tm):(dB t).c 2=.list (t.args.map dB):=by rw[D5];rfl
structure City where
 name:ByteArray
 order:Int
 currency:Int
 rest:List Int
 feasts:List Int
 shut:List Int
 deriving Inhabited
def og (x:City):D:=.agg [str x.name,.int x.order,.int x.currency,ints x.rest,ints x.feasts,ints x.shut]
@[simp] def ayB (x:City):(og x).cells=[str x.name,.int x.order,.int x.currency,ints x.rest,ints x.feasts,ints x.shut]:=zyy
@[simp] def aCK (x:City):D.agg [str x.name,.int x.order,.int x.currency,ints x.rest,ints x.feasts,ints x.shut]=og x:=zyy
@[simp] def ayv (x:City):(og x).c 0=str x.name:=zyy
@[simp] def ayw (x:City):(og x).c 1=.int x.order:=zyy
@[simp] def ayx (x:City):(og x).c 2=.int x.currency:=zyy
@[simp] def ayy (x:City):(og x).c 3=ints x.rest:=zyy
@[simp] def ayz (x:City):(og x).c 4=ints x.feasts:=zyy
@[simp] def ayA (x:City):(og x).c 5=ints x.shut:=zyy
def AY (l:List City):D:=.list (l.map og)
@[simp] def aAq (l:List City):(AY l).l=l.map og:=zyy
abbrev W9:Ty:=.agg [.str,.int .i64,.int .i64,.slice (.int .i64),.slice (.int .i64),.slice (.int .i64)]
def City.OK (x:City):Prop:=aX x.order/\aX x.currency/\(x.rest.length<=maxLen/\∀y,y∈x.rest->aX y)/\(x.feasts.length<=maxLen/\∀y,y∈x.feasts->aX y)/\(x.shut.length<=maxLen/\∀y,y∈x.shut->aX y)
def ai2 {d:D}(h:DTy W9 d):∃x:City,d=og x/\x.OK:=by
 obtain⟨ds,rfl,hs⟩:=h.agg_inv;obtain⟨d0,ds,rfl,h0,hs⟩:=hs.cons_inv;obtain⟨d1,ds,rfl,h1,hs⟩:=hs.cons_inv;obtain⟨d2,ds,rfl,h2,hs⟩:=hs.cons_inv;obtain⟨d3,ds,rfl,h3,hs⟩:=hs.cons_inv;obtain⟨d4,ds,rfl,h4,hs⟩:=hs.cons_inv;obtain⟨d5,ds,rfl,h5,hs⟩:=hs.cons_inv;obtain rfl:=hs.nil_inv;obtain⟨n0,rfl⟩:=str_inv h0;obtain⟨n1,rfl,b1⟩:=h1.i64_inv;obtain⟨n2,rfl,b2⟩:=h2.i64_inv;obtain⟨n3,rfl,b3,c3⟩:=h3.ints_inv;obtain⟨n4,rfl,b4,c4⟩:=h4.ints_inv;obtain⟨n5,rfl,b5,c5⟩:=h5.ints_inv;exact⟨⟨n0,n1,n2,n3,n4,n5⟩,rfl,⟨b1,b2,⟨b3,c3⟩,⟨b4,c4⟩,⟨b5,c5⟩⟩⟩
def ai4 {d:D}(h:DTy (.slice W9) d):∃l:List City,d=AY l/\l.length<=maxLen/\∀y,y∈l->City.OK y:=by
 obtain⟨xs,rfl,hm,hx⟩:=h.slice_inv;obtain⟨l,rfl,hl⟩:=lE (enc:=og) (P:=City.OK) λx hh=>ai2 (hx x hh);exact⟨l,rfl,by simpa using hm,hl⟩
structure Firm where
 name:ByteArray
 city:Int
 group:Int
 deriving Inhabited
def tS (x:Firm):D:=.agg [str x.name,.int x.city,.int x.group]
@[simp] def ayX (x:Firm):(tS x).cells=[str x.name,.int x.city,.int x.group]:=zyy
@[simp] def aCN (x:Firm):D.agg [str x.name,.int x.city,.int x.group]=tS x:=zyy
@[simp] def ayU (x:Firm):(tS x).c 0=str x.name:=zyy
@[simp] def ayV (x:Firm):(tS x).c 1=.int x.city:=zyy
@[simp] def ayW (x:Firm):(tS x).c 2=.int x.group:=zyy
def firms (l:List Firm):D:=.list (l.map tS)
@[simp] def aBA (l:List Firm):(firms l).l=l.map tS:=zyy
abbrev Xb:Ty:=.agg [.str,.int .i64,.int .i64]
def Firm.OK (x:Firm):Prop:=aX x.city/\aX x.group
def akF {d:D}(h:DTy Xb d):∃x:Firm,d=tS x/\x.OK:=by
 obtain⟨ds,rfl,hs⟩:=h.agg_inv;obtain⟨d0,ds,rfl,h0,hs⟩:=hs.cons_inv;obtain⟨d1,ds,rfl,h1,hs⟩:=hs.cons_inv;obtain⟨d2,ds,rfl,h2,hs⟩:=hs.cons_inv;obtain rfl:=hs.nil_inv;obtain⟨n0,rfl⟩:=str_inv h0;obtain⟨n1,rfl,b1⟩:=h1.i64_inv;obtain⟨n2,rfl,b2⟩:=h2.i64_inv;exact⟨⟨n0,n1,n2⟩,rfl,⟨b1,b2⟩⟩
def akG {d:D}(h:DTy (.slice Xb) d):∃l:List Firm,d=firms l/\l.length<=maxLen/\∀y,y∈l->Firm.OK y:=by
 obtain⟨xs,rfl,hm,hx⟩:=h.slice_inv;obtain⟨l,rfl,hl⟩:=lE (enc:=tS) (P:=Firm.OK) λx hh=>akF (hx x hh);exact⟨l,rfl,by simpa using hm,hl⟩
structure Group where
 grade:Int
 deriving DecidableEq,Inhabited
def xV (x:Group):D:=.agg [.int x.grade]
@[simp] def ayZ (x:Group):(xV x).cells=[.int x.grade]:=zyy
@[simp] def aCO (x:Group):D.agg [.int x.grade]=xV x:=zyy
@[simp] def ayY (x:Group):(xV x).c 0=.int x.grade:=zyy
def groups (l:List Group):D:=.list (l.map xV)
@[simp] def aBJ (l:List Group):(groups l).l=l.map xV:=zyy
abbrev Xc:Ty:=.agg [.int .i64]
def Group.OK (x:Group):Prop:=aX x.grade
def al0 {d:D}(h:DTy Xc d):∃x:Group,d=xV x/\x.OK:=by
 obtain⟨ds,rfl,hs⟩:=h.agg_inv;obtain⟨d0,ds,rfl,h0,hs⟩:=hs.cons_inv;obtain rfl:=hs.nil_inv;obtain⟨n0,rfl,b0⟩:=h0.i64_inv;exact⟨⟨n0⟩,rfl,b0⟩
def al3 {d:D}(h:DTy (.slice Xc) d):∃l:List Group,d=groups l/\l.length<=maxLen/\∀y,y∈l->Group.OK y:=by
 obtain⟨xs,rfl,hm,hx⟩:=h.slice_inv;obtain⟨l,rfl,hl⟩:=lE (enc:=xV) (P:=Group.OK) λx hh=>al0 (hx x hh);exact⟨l,rfl,by simpa using hm,hl⟩
structure Usance where
 fr:Int
 to:Int
 days:Int
 deriving DecidableEq,Inhabited
def tV (x:Usance):D:=.agg [.int x.fr,.int x.to,.int x.days]
@[simp] def azQ (x:Usance):(tV x).cells=[.int x.fr,.int x.to,.int x.days]:=zyy
@[simp] def aCX (x:Usance):D.agg [.int x.fr,.int x.to,.int x.days]=tV x:=zyy
@[simp] def azN (x:Usance):(tV x).c 0=.int x.fr:=zyy
@[simp] def azO (x:Usance):(tV x).c 1=.int x.to:=zyy
@[simp] def azP (x:Usance):(tV x).c 2=.int x.days:=zyy
def usances (l:List Usance):D:=.list (l.map tV)
@[simp] def aDT (l:List Usance):(usances l).l=l.map tV:=zyy
abbrev Xi:Ty:=.agg [.int .i64,.int .i64,.int .i64]
def Usance.OK (x:Usance):Prop:=aX x.fr/\aX x.to/\aX x.days
def axn {d:D}(h:DTy Xi d):∃x:Usance,d=tV x/\x.OK:=by
 obtain⟨ds,rfl,hs⟩:=h.agg_inv;obtain⟨d0,ds,rfl,h0,hs⟩:=hs.cons_inv;obtain⟨d1,ds,rfl,h1,hs⟩:=hs.cons_inv;obtain⟨d2,ds,rfl,h2,hs⟩:=hs.cons_inv;obtain rfl:=hs.nil_inv;obtain⟨n0,rfl,b0⟩:=h0.i64_inv;obtain⟨n1,rfl,b1⟩:=h1.i64_inv;obtain⟨n2,rfl,b2⟩:=h2.i64_inv;exact⟨⟨n0,n1,n2⟩,rfl,⟨b0,b1,b2⟩⟩
def axo {d:D}(h:DTy (.slice Xi) d):∃l:List Usance,d=usances l/\l.length<=maxLen/\∀y,y∈l->Usance.OK y:=by
 obtain⟨xs,rfl,hm,hx⟩:=h.slice_inv;obtain⟨l,rfl,hl⟩:=lE (enc:=tV) (P:=Usance.OK) λx hh=>axn (hx x hh);exact⟨l,rfl,by simpa using hm,hl⟩
structure Rate where
 fr:Int
 to:Int
 num:Int
 den:Int
 since:Int
 deriving DecidableEq,Inhabited
def qw (x:Rate):D:=.agg [.int x.fr,.int x.to,.int x.num,.int x.den,.int x.since]
@[simp] def aze (x:Rate):(qw x).cells=[.int x.fr,.int x.to,.int x.num,.int x.den,.int x.since]:=zyy
@[simp] def aCR (x:Rate):D.agg [.int x.fr,.int x.to,.int x.num,.int x.den,.int x.since]=qw x:=zyy
@[simp] def ay9 (x:Rate):(qw x).c 0=.int x.fr:=zyy
@[simp] def aza (x:Rate):(qw x).c 1=.int x.to:=zyy
@[simp] def azb (x:Rate):(qw x).c 2=.int x.num:=zyy
@[simp] def azc (x:Rate):(qw x).c 3=.int x.den:=zyy
@[simp] def azd (x:Rate):(qw x).c 4=.int x.since:=zyy
def rates (l:List Rate):D:=.list (l.map qw)
@[simp] def aDj (l:List Rate):(rates l).l=l.map qw:=zyy
abbrev Xf:Ty:=.agg [.int .i64,.int .i64,.int .i64,.int .i64,.int .i64]
def Rate.OK (x:Rate):Prop:=aX x.fr/\aX x.to/\aX x.num/\aX x.den/\aX x.since
def atk {d:D}(h:DTy Xf d):∃x:Rate,d=qw x/\x.OK:=by
 obtain⟨ds,rfl,hs⟩:=h.agg_inv;obtain⟨d0,ds,rfl,h0,hs⟩:=hs.cons_inv;obtain⟨d1,ds,rfl,h1,hs⟩:=hs.cons_inv;obtain⟨d2,ds,rfl,h2,hs⟩:=hs.cons_inv;obtain⟨d3,ds,rfl,h3,hs⟩:=hs.cons_inv;obtain⟨d4,ds,rfl,h4,hs⟩:=hs.cons_inv;obtain rfl:=hs.nil_inv;obtain⟨n0,rfl,b0⟩:=h0.i64_inv;obtain⟨n1,rfl,b1⟩:=h1.i64_inv;obtain⟨n2,rfl,b2⟩:=h2.i64_inv;obtain⟨n3,rfl,b3⟩:=h3.i64_inv;obtain⟨n4,rfl,b4⟩:=h4.i64_inv;exact⟨⟨n0,n1,n2,n3,n4⟩,rfl,⟨b0,b1,b2,b3,b4⟩⟩
def atl {d:D}(h:DTy (.slice Xf) d):∃l:List Rate,d=rates l/\l.length<=maxLen/\∀y,y∈l->Rate.OK y:=by
 obtain⟨xs,rfl,hm,hx⟩:=h.slice_inv;obtain⟨l,rfl,hl⟩:=lE (enc:=qw) (P:=Rate.OK) λx hh=>atk (hx x hh);exact⟨l,rfl,by simpa using hm,hl⟩
structure Halt where
 order:Int
 fr:Int
 to:Int
 deriving DecidableEq,Inhabited
def tT (x:Halt):D:=.agg [.int x.order,.int x.fr,.int x.to]
@[simp] def ay3 (x:Halt):(tT x).cells=[.int x.order,.int x.fr,.int x.to]:=zyy
@[simp] def aCP (x:Halt):D.agg [.int x.order,.int x.fr,.int x.to]=tT x:=zyy
@[simp] def ay0 (x:Halt):(tT x).c 0=.int x.order:=zyy
@[simp] def ay1 (x:Halt):(tT x).c 1=.int x.fr:=zyy
@[simp] def ay2 (x:Halt):(tT x).c 2=.int x.to:=zyy
def halts (l:List Halt):D:=.list (l.map tT)
@[simp] def aBU (l:List Halt):(halts l).l=l.map tT:=zyy
abbrev Xd:Ty:=.agg [.int .i64,.int .i64,.int .i64]
def Halt.OK (x:Halt):Prop:=aX x.order/\aX x.fr/\aX x.to
def amC {d:D}(h:DTy Xd d):∃x:Halt,d=tT x/\x.OK:=by
 obtain⟨ds,rfl,hs⟩:=h.agg_inv;obtain⟨d0,ds,rfl,h0,hs⟩:=hs.cons_inv;obtain⟨d1,ds,rfl,h1,hs⟩:=hs.cons_inv;obtain⟨d2,ds,rfl,h2,hs⟩:=hs.cons_inv;obtain rfl:=hs.nil_inv;obtain⟨n0,rfl,b0⟩:=h0.i64_inv;obtain⟨n1,rfl,b1⟩:=h1.i64_inv;obtain⟨n2,rfl,b2⟩:=h2.i64_inv;exact⟨⟨n0,n1,n2⟩,rfl,⟨b0,b1,b2⟩⟩
def amD {d:D}(h:DTy (.slice Xd) d):∃l:List Halt,d=halts l/\l.length<=maxLen/\∀y,y∈l->Halt.OK y:=by
 obtain⟨xs,rfl,hm,hx⟩:=h.slice_inv;obtain⟨l,rfl,hl⟩:=lE (enc:=tT) (P:=Halt.OK) λx hh=>amC (hx x hh);exact⟨l,rfl,by simpa using hm,hl⟩
structure Choice where
 ask:Int
 by_:Int
 whole:Bool
 deriving DecidableEq,Inhabited
def tR (x:Choice):D:=.agg [.int x.ask,.int x.by_,.bool x.whole]
@[simp] def ayu (x:Choice):(tR x).cells=[.int x.ask,.int x.by_,.bool x.whole]:=zyy
@[simp] def aCJ (x:Choice):D.agg [.int x.ask,.int x.by_,.bool x.whole]=tR x:=zyy
@[simp] def ays (x:Choice):(tR x).c 0=.int x.ask:=zyy
@[simp] def ayt (x:Choice):(tR x).c 1=.int x.by_:=zyy
def choices (l:List Choice):D:=.list (l.map tR)
@[simp] def aAp (l:List Choice):(choices l).l=l.map tR:=zyy
abbrev W8:Ty:=.agg [.int .i64,.int .i64,.bool]
def Choice.OK (x:Choice):Prop:=aX x.ask/\aX x.by_
def ai0 {d:D}(h:DTy W8 d):∃x:Choice,d=tR x/\x.OK:=by
 obtain⟨ds,rfl,hs⟩:=h.agg_inv;obtain⟨d0,ds,rfl,h0,hs⟩:=hs.cons_inv;obtain⟨d1,ds,rfl,h1,hs⟩:=hs.cons_inv;obtain⟨d2,ds,rfl,h2,hs⟩:=hs.cons_inv;obtain rfl:=hs.nil_inv;obtain⟨n0,rfl,b0⟩:=h0.i64_inv;obtain⟨n1,rfl,b1⟩:=h1.i64_inv;obtain⟨n2,rfl⟩:=h2.bool_inv;exact⟨⟨n0,n1,n2⟩,rfl,⟨b0,b1⟩⟩
def ai1 {d:D}(h:DTy (.slice W8) d):∃l:List Choice,d=choices l/\l.length<=maxLen/\∀y,y∈l->Choice.OK y:=by
 obtain⟨xs,rfl,hm,hx⟩:=h.slice_inv;obtain⟨l,rfl,hl⟩:=lE (enc:=tR) (P:=Choice.OK) λx hh=>ai0 (hx x hh);exact⟨l,rfl,by simpa using hm,hl⟩
structure Rule where
 ask:Int
 term:Tm
 deriving Inhabited
def tU (x:Rule):D:=.agg [.int x.ask,.int x.term.op,.int x.term.n,.list (x.term.args.map dB)]
@[simp] def azp (x:Rule):(tU x).cells=[.int x.ask,.int x.term.op,.int x.term.n,.list (x.term.args.map dB)]:=zyy
@[simp] def aCT (x:Rule):D.agg [.int x.ask,.int x.term.op,.int x.term.n,.list (x.term.args.map dB)]=tU x:=zyy
@[simp] def azo (x:Rule):(tU x).c 0=.int x.ask:=zyy
def rules (l:List Rule):D:=.list (l.map tU)
@[simp] def aDn (l:List Rule):(rules l).l=l.map tU:=zyy
abbrev Xg:Ty:=.agg [.int .i64,.int .i64,.int .i64,.slice .trm]
def Rule.OK (x:Rule):Prop:=aX x.ask/\Tm.OK x.term
def atZ {d:D}(h:DTy Xg d):∃x:Rule,d=tU x/\x.OK:=by
 obtain⟨ds,rfl,hs⟩:=h.agg_inv;obtain⟨d0,ds,rfl,h0,hs⟩:=hs.cons_inv;obtain⟨d1,ds,rfl,h1,hs⟩:=hs.cons_inv;obtain⟨d2,ds,rfl,h2,hs⟩:=hs.cons_inv;obtain⟨d3,ds,rfl,h3,hs⟩:=hs.cons_inv;obtain rfl:=hs.nil_inv;obtain⟨n0,rfl,b0⟩:=h0.i64_inv;obtain⟨n1,rfl,b1⟩:=h1.i64_inv;obtain⟨n2,rfl,b2⟩:=h2.i64_inv;obtain⟨n3,rfl,b3,c3⟩:=h3.trms_inv;exact⟨⟨n0,.mk n1 n2 n3⟩,rfl,⟨b0,.mk _ _ _ b1 b2 b3 c3⟩⟩
def at0 {d:D}(h:DTy (.slice Xg) d):∃l:List Rule,d=rules l/\l.length<=maxLen/\∀y,y∈l->Rule.OK y:=by
 obtain⟨xs,rfl,hm,hx⟩:=h.slice_inv;obtain⟨l,rfl,hl⟩:=lE (enc:=tU) (P:=Rule.OK) λx hh=>atZ (hx x hh);exact⟨l,rfl,by simpa using hm,hl⟩
structure Order where
 name:ByteArray
 accepts:Bool
 choices:List Choice
 rules:List Rule
 deriving Inhabited
def jC (x:Order):D:=.agg [str x.name,.bool x.accepts,choices x.choices,rules x.rules]
@[simp] def ay8 (x:Order):(jC x).cells=[str x.name,.bool x.accepts,choices x.choices,rules x.rules]:=zyy
@[simp] def aCQ (x:Order):D.agg [str x.name,.bool x.accepts,choices x.choices,rules x.rules]=jC x:=zyy
@[simp] def az3 (x:Order):nq 4 (jC x)=jC x:=zyy
@[simp] def ay4 (x:Order):(jC x).c 0=str x.name:=zyy
@[simp] def ay5 (x:Order):(jC x).c 1=.bool x.accepts:=zyy
@[simp] def ay6 (x:Order):(jC x).c 2=choices x.choices:=zyy
@[simp] def ay7 (x:Order):(jC x).c 3=rules x.rules:=zyy
def orders (l:List Order):D:=.list (l.map jC)
@[simp] def aC4 (l:List Order):(orders l).l=l.map jC:=zyy
abbrev Xe:Ty:=.agg [.str,.bool,.slice W8,.slice Xg]
def Order.OK (x:Order):Prop:=(x.choices.length<=maxLen/\∀y,y∈x.choices->Choice.OK y)/\(x.rules.length<=maxLen/\∀y,y∈x.rules->Rule.OK y)
def ar7 {d:D}(h:DTy Xe d):∃x:Order,d=jC x/\x.OK:=by
 obtain⟨ds,rfl,hs⟩:=h.agg_inv;obtain⟨d0,ds,rfl,h0,hs⟩:=hs.cons_inv;obtain⟨d1,ds,rfl,h1,hs⟩:=hs.cons_inv;obtain⟨d2,ds,rfl,h2,hs⟩:=hs.cons_inv;obtain⟨d3,ds,rfl,h3,hs⟩:=hs.cons_inv;obtain rfl:=hs.nil_inv;obtain⟨n0,rfl⟩:=str_inv h0;obtain⟨n1,rfl⟩:=h1.bool_inv;obtain⟨n2,rfl,b2,c2⟩:=ai1 h2;obtain⟨n3,rfl,b3,c3⟩:=at0 h3;exact⟨⟨n0,n1,n2,n3⟩,rfl,⟨⟨b2,c2⟩,⟨b3,c3⟩⟩⟩
def ar8 {d:D}(h:DTy (.slice Xe) d):∃l:List Order,d=orders l/\l.length<=maxLen/\∀y,y∈l->Order.OK y:=by
 obtain⟨xs,rfl,hm,hx⟩:=h.slice_inv;obtain⟨l,rfl,hl⟩:=lE (enc:=jC) (P:=Order.OK) λx hh=>ar7 (hx x hh);exact⟨l,rfl,by simpa using hm,hl⟩
structure Realm where
 currencies:List ByteArray
 cities:List City
 groups:List Group
 firms:List Firm
 orders:List Order
 usances:List Usance
 rates:List Rate
 halts:List Halt
 deriving Inhabited
abbrev zzz (x:Realm):List D:=[strs x.currencies,AY x.cities,groups x.groups,firms x.firms,orders x.orders,usances x.usances,rates x.rates,halts x.halts]
def bB (x:Realm):D:=.agg (zzz x)
@[simp] def azn (x:Realm):(bB x).cells=(zzz x):=zyy
@[simp] def aCS (x:Realm):D.agg (zzz x)=bB x:=zyy
@[simp] def az4 (x:Realm):nq 8 (bB x)=bB x:=zyy
@[simp] def azf (x:Realm):(bB x).c 0=strs x.currencies:=zyy
@[simp] def azg (x:Realm):(bB x).c 1=AY x.cities:=zyy
@[simp] def azh (x:Realm):(bB x).c 2=groups x.groups:=zyy
@[simp] def azi (x:Realm):(bB x).c 3=firms x.firms:=zyy
@[simp] def azj (x:Realm):(bB x).c 4=orders x.orders:=zyy
@[simp] def azk (x:Realm):(bB x).c 5=usances x.usances:=zyy
@[simp] def azl (x:Realm):(bB x).c 6=rates x.rates:=zyy
@[simp] def azm (x:Realm):(bB x).c 7=halts x.halts:=zyy
abbrev axe:Ty:=.agg [.slice .str,.slice W9,.slice Xc,.slice Xb,.slice Xe,.slice Xi,.slice Xf,.slice Xd]
def Realm.OK (x:Realm):Prop:=x.currencies.length<=maxLen/\(x.cities.length<=maxLen/\∀y,y∈x.cities->City.OK y)/\(x.groups.length<=maxLen/\∀y,y∈x.groups->Group.OK y)/\(x.firms.length<=maxLen/\∀y,y∈x.firms->Firm.OK y)/\(x.orders.length<=maxLen/\∀y,y∈x.orders->Order.OK y)/\(x.usances.length<=maxLen/\∀y,y∈x.usances->Usance.OK y)/\(x.rates.length<=maxLen/\∀y,y∈x.rates->Rate.OK y)/\(x.halts.length<=maxLen/\∀y,y∈x.halts->Halt.OK y)
def atu {d:D}(h:DTy axe d):∃x:Realm,d=bB x/\x.OK:=by
 obtain⟨ds,rfl,hs⟩:=h.agg_inv;obtain⟨d0,ds,rfl,h0,hs⟩:=hs.cons_inv;obtain⟨d1,ds,rfl,h1,hs⟩:=hs.cons_inv;obtain⟨d2,ds,rfl,h2,hs⟩:=hs.cons_inv;obtain⟨d3,ds,rfl,h3,hs⟩:=hs.cons_inv;obtain⟨d4,ds,rfl,h4,hs⟩:=hs.cons_inv;obtain⟨d5,ds,rfl,h5,hs⟩:=hs.cons_inv;obtain⟨d6,ds,rfl,h6,hs⟩:=hs.cons_inv;obtain⟨d7,ds,rfl,h7,hs⟩:=hs.cons_inv;obtain rfl:=hs.nil_inv;obtain⟨n0,rfl,b0⟩:=auv h0;obtain⟨n1,rfl,b1,c1⟩:=ai4 h1;obtain⟨n2,rfl,b2,c2⟩:=al3 h2;obtain⟨n3,rfl,b3,c3⟩:=akG h3;obtain⟨n4,rfl,b4,c4⟩:=ar8 h4;obtain⟨n5,rfl,b5,c5⟩:=axo h5;obtain⟨n6,rfl,b6,c6⟩:=atl h6;obtain⟨n7,rfl,b7,c7⟩:=amD h7;exact⟨⟨n0,n1,n2,n3,n4,n5,n6,n7⟩,rfl,⟨b0,⟨b1,c1⟩,⟨b2,c2⟩,⟨b3,c3⟩,⟨b4,c4⟩,⟨b5,c5⟩,⟨b6,c6⟩,⟨b7,c7⟩⟩⟩
structure Tenor where
 kind:Int
 n:Int
 unit:Int
 deriving DecidableEq,Inhabited
def D6 (x:Tenor):D:=.agg [.int x.kind,.int x.n,.int x.unit]
@[simp] def azM (x:Tenor):(D6 x).cells=[.int x.kind,.int x.n,.int x.unit]:=zyy
@[simp] def aCW (x:Tenor):D.agg [.int x.kind,.int x.n,.int x.unit]=D6 x:=zyy
@[simp] def azJ (x:Tenor):(D6 x).c 0=.int x.kind:=zyy
@[simp] def azK (x:Tenor):(D6 x).c 1=.int x.n:=zyy
@[simp] def azL (x:Tenor):(D6 x).c 2=.int x.unit:=zyy
def Tenor.OK (x:Tenor):Prop:=aX x.kind/\aX x.n/\aX x.unit
structure Bill where
 drawer:Int
 drawee:Int
 payee:Int
 sum:Int
 currency:Int
 tenor:Tenor
 day:Int
 city:Int
 pay:Int
 need:Int
 rate:Int
 flags:Int
 parts:Int
 deriving DecidableEq,Inhabited
abbrev WP (x:Bill):List D:=[.int x.drawer,.int x.drawee,.int x.payee,.int x.sum,.int x.currency,.int x.tenor.kind,.int x.tenor.n,.int x.tenor.unit,.int x.day,.int x.city,.int x.pay,.int x.need,.int x.rate,.int x.flags,.int x.parts]
def gV (x:Bill):D:=.agg (WP x)
@[simp] def ayf (x:Bill):(gV x).cells=(WP x):=zyy
@[simp] def aCG (x:Bill):D.agg (WP x)=gV x:=zyy
@[simp] def az1 (x:Bill):nq 15 (gV x)=gV x:=zyy
@[simp] def aC5 (x:Bill)(a0 a1 a2 a3 a4 a5 a6 a7 a8 a9 ph rM rN rO rP:D):D.agg (eh [a0,a1,a2,a3,a4,a5,a6,a7,a8,a9,ph,rM,rN,rO,rP] 0 (WP x))=gV x:=zyy
@[simp] def ax0 (x:Bill):(gV x).c 0=.int x.drawer:=zyy
@[simp] def ax1 (x:Bill):(gV x).c 1=.int x.drawee:=zyy
@[simp] def ax7 (x:Bill):(gV x).c 2=.int x.payee:=zyy
@[simp] def ax8 (x:Bill):(gV x).c 3=.int x.sum:=zyy
@[simp] def ax9 (x:Bill):(gV x).c 4=.int x.currency:=zyy
@[simp] def aya (x:Bill):(gV x).c 5=.int x.tenor.kind:=zyy
@[simp] def ayb (x:Bill):(gV x).c 6=.int x.tenor.n:=zyy
@[simp] def ayc (x:Bill):(gV x).c 7=.int x.tenor.unit:=zyy
@[simp] def ayd (x:Bill):(gV x).c 8=.int x.day:=zyy
@[simp] def aye (x:Bill):(gV x).c 9=.int x.city:=zyy
@[simp] def ax2 (x:Bill):(gV x).c 10=.int x.pay:=zyy
@[simp] def ax3 (x:Bill):(gV x).c 11=.int x.need:=zyy
@[simp] def ax4 (x:Bill):(gV x).c 12=.int x.rate:=zyy
@[simp] def ax5 (x:Bill):(gV x).c 13=.int x.flags:=zyy
@[simp] def ax6 (x:Bill):(gV x).c 14=.int x.parts:=zyy
def Bill.OK (x:Bill):Prop:=aX x.drawer/\aX x.drawee/\aX x.payee/\aX x.sum/\aX x.currency/\Tenor.OK x.tenor/\aX x.day/\aX x.city/\aX x.pay/\aX x.need/\aX x.rate/\aX x.flags/\aX x.parts
structure Sign where
 kind:Int
 part:Int
 who:Int
 for_:Int
 to:Int
 sum:Int
 day:Int
 city:Int
 flags:Int
 deriving DecidableEq,Inhabited
abbrev zzy (x:Sign):List D:=[.int x.kind,.int x.part,.int x.who,.int x.for_,.int x.to,.int x.sum,.int x.day,.int x.city,.int x.flags]
def lq (x:Sign):D:=.agg (zzy x)
@[simp] def azD (x:Sign):(lq x).cells=(zzy x):=zyy
@[simp] def aCV (x:Sign):D.agg (zzy x)=lq x:=zyy
@[simp] def az5 (x:Sign):nq 9 (lq x)=lq x:=zyy
@[simp] def azu (x:Sign):(lq x).c 0=.int x.kind:=zyy
@[simp] def azv (x:Sign):(lq x).c 1=.int x.part:=zyy
@[simp] def azw (x:Sign):(lq x).c 2=.int x.who:=zyy
@[simp] def azx (x:Sign):(lq x).c 3=.int x.for_:=zyy
@[simp] def azy (x:Sign):(lq x).c 4=.int x.to:=zyy
@[simp] def azz (x:Sign):(lq x).c 5=.int x.sum:=zyy
@[simp] def azA (x:Sign):(lq x).c 6=.int x.day:=zyy
@[simp] def azB (x:Sign):(lq x).c 7=.int x.city:=zyy
@[simp] def azC (x:Sign):(lq x).c 8=.int x.flags:=zyy
def signs (l:List Sign):D:=.list (l.map lq)
@[simp] def aDy (l:List Sign):(signs l).l=l.map lq:=zyy
@[simp] def aDx (l:List Sign):(signs l).cells=[signs l]:=zyy
abbrev Xh:Ty:=.agg [.int .i64,.int .i64,.int .i64,.int .i64,.int .i64,.int .i64,.int .i64,.int .i64,.int .i64]
def Sign.OK (x:Sign):Prop:=aX x.kind/\aX x.part/\aX x.who/\aX x.for_/\aX x.to/\aX x.sum/\aX x.day/\aX x.city/\aX x.flags
def aur {d:D}(h:DTy Xh d):∃x:Sign,d=lq x/\x.OK:=by
 obtain⟨ds,rfl,hs⟩:=h.agg_inv;obtain⟨d0,ds,rfl,h0,hs⟩:=hs.cons_inv;obtain⟨d1,ds,rfl,h1,hs⟩:=hs.cons_inv;obtain⟨d2,ds,rfl,h2,hs⟩:=hs.cons_inv;obtain⟨d3,ds,rfl,h3,hs⟩:=hs.cons_inv;obtain⟨d4,ds,rfl,h4,hs⟩:=hs.cons_inv;obtain⟨d5,ds,rfl,h5,hs⟩:=hs.cons_inv;obtain⟨d6,ds,rfl,h6,hs⟩:=hs.cons_inv;obtain⟨d7,ds,rfl,h7,hs⟩:=hs.cons_inv;obtain⟨d8,ds,rfl,h8,hs⟩:=hs.cons_inv;obtain rfl:=hs.nil_inv;obtain⟨n0,rfl,b0⟩:=h0.i64_inv;obtain⟨n1,rfl,b1⟩:=h1.i64_inv;obtain⟨n2,rfl,b2⟩:=h2.i64_inv;obtain⟨n3,rfl,b3⟩:=h3.i64_inv;obtain⟨n4,rfl,b4⟩:=h4.i64_inv;obtain⟨n5,rfl,b5⟩:=h5.i64_inv;obtain⟨n6,rfl,b6⟩:=h6.i64_inv;obtain⟨n7,rfl,b7⟩:=h7.i64_inv;obtain⟨n8,rfl,b8⟩:=h8.i64_inv;exact⟨⟨n0,n1,n2,n3,n4,n5,n6,n7,n8⟩,rfl,⟨b0,b1,b2,b3,b4,b5,b6,b7,b8⟩⟩
def aus {d:D}(h:DTy (.slice Xh) d):∃l:List Sign,d=signs l/\l.length<=maxLen/\∀y,y∈l->Sign.OK y:=by
 obtain⟨xs,rfl,hm,hx⟩:=h.slice_inv;obtain⟨l,rfl,hl⟩:=lE (enc:=lq) (P:=Sign.OK) λx hh=>aur (hx x hh);exact⟨l,rfl,by simpa using hm,hl⟩
structure Alter where
 at_:Int
 sum:Int
 deriving DecidableEq,Inhabited
def qv (x:Alter):D:=.agg [.int x.at_,.int x.sum]
@[simp] def axZ (x:Alter):(qv x).cells=[.int x.at_,.int x.sum]:=zyy
@[simp] def aCF (x:Alter):D.agg [.int x.at_,.int x.sum]=qv x:=zyy
@[simp] def axX (x:Alter):(qv x).c 0=.int x.at_:=zyy
@[simp] def axY (x:Alter):(qv x).c 1=.int x.sum:=zyy
def alters (l:List Alter):D:=.list (l.map qv)
@[simp] def az8 (l:List Alter):(alters l).l=l.map qv:=zyy
@[simp] def az7 (l:List Alter):(alters l).cells=[alters l]:=zyy
abbrev W7:Ty:=.agg [.int .i64,.int .i64]
def Alter.OK (x:Alter):Prop:=aX x.at_/\aX x.sum
def ah9 {d:D}(h:DTy W7 d):∃x:Alter,d=qv x/\x.OK:=by
 obtain⟨ds,rfl,hs⟩:=h.agg_inv;obtain⟨d0,ds,rfl,h0,hs⟩:=hs.cons_inv;obtain⟨d1,ds,rfl,h1,hs⟩:=hs.cons_inv;obtain rfl:=hs.nil_inv;obtain⟨n0,rfl,b0⟩:=h0.i64_inv;obtain⟨n1,rfl,b1⟩:=h1.i64_inv;exact⟨⟨n0,n1⟩,rfl,⟨b0,b1⟩⟩
def aia {d:D}(h:DTy (.slice W7) d):∃l:List Alter,d=alters l/\l.length<=maxLen/\∀y,y∈l->Alter.OK y:=by
 obtain⟨xs,rfl,hm,hx⟩:=h.slice_inv;obtain⟨l,rfl,hl⟩:=lE (enc:=qv) (P:=Alter.OK) λx hh=>ah9 (hx x hh);exact⟨l,rfl,by simpa using hm,hl⟩
structure Act where
 kind:Int
 who:Int
 to:Int
 part:Int
 at_:Int
 sum:Int
 day:Int
 city:Int
 form:Int
 deriving DecidableEq,Inhabited
abbrev zzx (x:Act):List D:=[.int x.kind,.int x.who,.int x.to,.int x.part,.int x.at_,.int x.sum,.int x.day,.int x.city,.int x.form]
def kG (x:Act):D:=.agg (zzx x)
@[simp] def axW (x:Act):(kG x).cells=(zzx x):=zyy
@[simp] def aCE (x:Act):D.agg (zzx x)=kG x:=zyy
@[simp] def az0 (x:Act):nq 9 (kG x)=kG x:=zyy
@[simp] def axN (x:Act):(kG x).c 0=.int x.kind:=zyy
@[simp] def axO (x:Act):(kG x).c 1=.int x.who:=zyy
@[simp] def axP (x:Act):(kG x).c 2=.int x.to:=zyy
@[simp] def axQ (x:Act):(kG x).c 3=.int x.part:=zyy
@[simp] def axR (x:Act):(kG x).c 4=.int x.at_:=zyy
@[simp] def axS (x:Act):(kG x).c 5=.int x.sum:=zyy
@[simp] def axT (x:Act):(kG x).c 6=.int x.day:=zyy
@[simp] def axU (x:Act):(kG x).c 7=.int x.city:=zyy
@[simp] def axV (x:Act):(kG x).c 8=.int x.form:=zyy
def acts (l:List Act):D:=.list (l.map kG)
@[simp] def azS (l:List Act):(acts l).l=l.map kG:=zyy
@[simp] def azR (l:List Act):(acts l).cells=[acts l]:=zyy
abbrev W5:Ty:=.agg [.int .i64,.int .i64,.int .i64,.int .i64,.int .i64,.int .i64,.int .i64,.int .i64,.int .i64]
def Act.OK (x:Act):Prop:=aX x.kind/\aX x.who/\aX x.to/\aX x.part/\aX x.at_/\aX x.sum/\aX x.day/\aX x.city/\aX x.form
def ah0 {d:D}(h:DTy W5 d):∃x:Act,d=kG x/\x.OK:=by
 obtain⟨ds,rfl,hs⟩:=h.agg_inv;obtain⟨d0,ds,rfl,h0,hs⟩:=hs.cons_inv;obtain⟨d1,ds,rfl,h1,hs⟩:=hs.cons_inv;obtain⟨d2,ds,rfl,h2,hs⟩:=hs.cons_inv;obtain⟨d3,ds,rfl,h3,hs⟩:=hs.cons_inv;obtain⟨d4,ds,rfl,h4,hs⟩:=hs.cons_inv;obtain⟨d5,ds,rfl,h5,hs⟩:=hs.cons_inv;obtain⟨d6,ds,rfl,h6,hs⟩:=hs.cons_inv;obtain⟨d7,ds,rfl,h7,hs⟩:=hs.cons_inv;obtain⟨d8,ds,rfl,h8,hs⟩:=hs.cons_inv;obtain rfl:=hs.nil_inv;obtain⟨n0,rfl,b0⟩:=h0.i64_inv;obtain⟨n1,rfl,b1⟩:=h1.i64_inv;obtain⟨n2,rfl,b2⟩:=h2.i64_inv;obtain⟨n3,rfl,b3⟩:=h3.i64_inv;obtain⟨n4,rfl,b4⟩:=h4.i64_inv;obtain⟨n5,rfl,b5⟩:=h5.i64_inv;obtain⟨n6,rfl,b6⟩:=h6.i64_inv;obtain⟨n7,rfl,b7⟩:=h7.i64_inv;obtain⟨n8,rfl,b8⟩:=h8.i64_inv;exact⟨⟨n0,n1,n2,n3,n4,n5,n6,n7,n8⟩,rfl,⟨b0,b1,b2,b3,b4,b5,b6,b7,b8⟩⟩
def ah1 {d:D}(h:DTy (.slice W5) d):∃l:List Act,d=acts l/\l.length<=maxLen/\∀y,y∈l->Act.OK y:=by
 obtain⟨xs,rfl,hm,hx⟩:=h.slice_inv;obtain⟨l,rfl,hl⟩:=lE (enc:=kG) (P:=Act.OK) λx hh=>ah0 (hx x hh);exact⟨l,rfl,by simpa using hm,hl⟩
structure Fact where
 kind:Int
 at_:Int
 n:Int
 deriving DecidableEq,Inhabited
def fG (x:Fact):D:=.agg [.int x.kind,.int x.at_,.int x.n]
@[simp] def ayF (x:Fact):(fG x).cells=[.int x.kind,.int x.at_,.int x.n]:=zyy
@[simp] def aCL (x:Fact):D.agg [.int x.kind,.int x.at_,.int x.n]=fG x:=zyy
@[simp] def ayC (x:Fact):(fG x).c 0=.int x.kind:=zyy
@[simp] def ayD (x:Fact):(fG x).c 1=.int x.at_:=zyy
@[simp] def ayE (x:Fact):(fG x).c 2=.int x.n:=zyy
def facts (l:List Fact):D:=.list (l.map fG)
@[simp] def aBy (l:List Fact):(facts l).l=l.map fG:=zyy
@[simp] def aBx (l:List Fact):(facts l).cells=[facts l]:=zyy
abbrev Xa:Ty:=.agg [.int .i64,.int .i64,.int .i64]
def Fact.OK (x:Fact):Prop:=aX x.kind/\aX x.at_/\aX x.n
def akw {d:D}(h:DTy Xa d):∃x:Fact,d=fG x/\x.OK:=by
 obtain⟨ds,rfl,hs⟩:=h.agg_inv;obtain⟨d0,ds,rfl,h0,hs⟩:=hs.cons_inv;obtain⟨d1,ds,rfl,h1,hs⟩:=hs.cons_inv;obtain⟨d2,ds,rfl,h2,hs⟩:=hs.cons_inv;obtain rfl:=hs.nil_inv;obtain⟨n0,rfl,b0⟩:=h0.i64_inv;obtain⟨n1,rfl,b1⟩:=h1.i64_inv;obtain⟨n2,rfl,b2⟩:=h2.i64_inv;exact⟨⟨n0,n1,n2⟩,rfl,⟨b0,b1,b2⟩⟩
def aky {d:D}(h:DTy (.slice Xa) d):∃l:List Fact,d=facts l/\l.length<=maxLen/\∀y,y∈l->Fact.OK y:=by
 obtain⟨xs,rfl,hm,hx⟩:=h.slice_inv;obtain⟨l,rfl,hl⟩:=lE (enc:=fG) (P:=Fact.OK) λx hh=>akw (hx x hh);exact⟨l,rfl,by simpa using hm,hl⟩
structure File where
 bill:Bill
 signs:List Sign
 alters:List Alter
 acts:List Act
 facts:List Fact
 deriving Inhabited
abbrev wd (x:File):List D:=[.int x.bill.drawer,.int x.bill.drawee,.int x.bill.payee,.int x.bill.sum,.int x.bill.currency,.int x.bill.tenor.kind,.int x.bill.tenor.n,.int x.bill.tenor.unit,.int x.bill.day,.int x.bill.city,.int x.bill.pay,.int x.bill.need,.int x.bill.rate,.int x.bill.flags,.int x.bill.parts,signs x.signs,alters x.alters,acts x.acts,facts x.facts]
def cr (x:File):D:=.agg (wd x)
@[simp] def ayT (x:File):(cr x).cells=(wd x):=zyy
@[simp] def aCM (x:File):D.agg (wd x)=cr x:=zyy
@[simp] def az2 (x:File):nq 19 (cr x)=cr x:=zyy
@[simp] def aC6 (x:File)(a0 a1 a2 a3 a4 a5 a6 a7 a8 a9 ph rM rN rO rP vx vy vz xJ:D):D.agg (eh [a0,a1,a2,a3,a4,a5,a6,a7,a8,a9,ph,rM,rN,rO,rP,vx,vy,vz,xJ] 0 (wd x))=cr x:=zyy
@[simp] def ayO (x:File):(cr x).c 2=.int x.bill.payee:=zyy
@[simp] def ayP (x:File):(cr x).c 3=.int x.bill.sum:=zyy
@[simp] def ayQ (x:File):(cr x).c 5=.int x.bill.tenor.kind:=zyy
@[simp] def ayR (x:File):(cr x).c 8=.int x.bill.day:=zyy
@[simp] def ayS (x:File):(cr x).c 9=.int x.bill.city:=zyy
@[simp] def ayG (x:File):(cr x).c 10=.int x.bill.pay:=zyy
@[simp] def ayH (x:File):(cr x).c 12=.int x.bill.rate:=zyy
@[simp] def ayI (x:File):(cr x).c 13=.int x.bill.flags:=zyy
@[simp] def ayJ (x:File):(cr x).c 14=.int x.bill.parts:=zyy
@[simp] def ayK (x:File):(cr x).c 15=signs x.signs:=zyy
@[simp] def ayL (x:File):(cr x).c 16=alters x.alters:=zyy
@[simp] def ayM (x:File):(cr x).c 17=acts x.acts:=zyy
@[simp] def ayN (x:File):(cr x).c 18=facts x.facts:=zyy
def File.OK (x:File):Prop:=Bill.OK x.bill/\(x.signs.length<=maxLen/\∀y,y∈x.signs->Sign.OK y)/\(x.alters.length<=maxLen/\∀y,y∈x.alters->Alter.OK y)/\(x.acts.length<=maxLen/\∀y,y∈x.acts->Act.OK y)/\(x.facts.length<=maxLen/\∀y,y∈x.facts->Fact.OK y)
structure Case where
 file:File
 sign:Int
 holder:Int
 defence:Int
 due:Int
 day:Int
 deriving Inhabited
def cq (x:Case):D:=.agg [.int x.file.bill.drawer,.int x.file.bill.drawee,.int x.file.bill.payee,.int x.file.bill.sum,.int x.file.bill.currency,.int x.file.bill.tenor.kind,.int x.file.bill.tenor.n,.int x.file.bill.tenor.unit,.int x.file.bill.day,.int x.file.bill.city,.int x.file.bill.pay,.int x.file.bill.need,.int x.file.bill.rate,.int x.file.bill.flags,.int x.file.bill.parts,signs x.file.signs,alters x.file.alters,acts x.file.acts,facts x.file.facts,.int x.sign,.int x.holder,.int x.defence,.int x.due,.int x.day]
@[simp] def ayo (x:Case):(cq x).cells=[.int x.file.bill.drawer,.int x.file.bill.drawee,.int x.file.bill.payee,.int x.file.bill.sum,.int x.file.bill.currency,.int x.file.bill.tenor.kind,.int x.file.bill.tenor.n,.int x.file.bill.tenor.unit,.int x.file.bill.day,.int x.file.bill.city,.int x.file.bill.pay,.int x.file.bill.need,.int x.file.bill.rate,.int x.file.bill.flags,.int x.file.bill.parts,signs x.file.signs,alters x.file.alters,acts x.file.acts,facts x.file.facts,.int x.sign,.int x.holder,.int x.defence,.int x.due,.int x.day]:=zyy
@[simp] def aCH (x:Case):D.agg [.int x.file.bill.drawer,.int x.file.bill.drawee,.int x.file.bill.payee,.int x.file.bill.sum,.int x.file.bill.currency,.int x.file.bill.tenor.kind,.int x.file.bill.tenor.n,.int x.file.bill.tenor.unit,.int x.file.bill.day,.int x.file.bill.city,.int x.file.bill.pay,.int x.file.bill.need,.int x.file.bill.rate,.int x.file.bill.flags,.int x.file.bill.parts,signs x.file.signs,alters x.file.alters,acts x.file.acts,facts x.file.facts,.int x.sign,.int x.holder,.int x.defence,.int x.due,.int x.day]=cq x:=zyy
@[simp] def ah8 (x:Case):nq 24 (cq x)=cq x:=zyy
@[simp] def asb (x:Case)(a0 a1 a2 a3 a4 a5 a6 a7 a8 a9 ph rM rN rO rP vx vy vz xJ a19 a20 a21 a22 a23:D):D.agg (eh [a0,a1,a2,a3,a4,a5,a6,a7,a8,a9,ph,rM,rN,rO,rP,vx,vy,vz,xJ,a19,a20,a21,a22,a23] 0 [.int x.file.bill.drawer,.int x.file.bill.drawee,.int x.file.bill.payee,.int x.file.bill.sum,.int x.file.bill.currency,.int x.file.bill.tenor.kind,.int x.file.bill.tenor.n,.int x.file.bill.tenor.unit,.int x.file.bill.day,.int x.file.bill.city,.int x.file.bill.pay,.int x.file.bill.need,.int x.file.bill.rate,.int x.file.bill.flags,.int x.file.bill.parts,signs x.file.signs,alters x.file.alters,acts x.file.acts,facts x.file.facts,.int x.sign,.int x.holder,.int x.defence,.int x.due,.int x.day])=cq x:=zyy
@[simp] def ayn (x:Case):(cq x).c 9=.int x.file.bill.city:=zyy
@[simp] def ayg (x:Case):(cq x).c 10=.int x.file.bill.pay:=zyy
@[simp] def ayh (x:Case):(cq x).c 15=signs x.file.signs:=zyy
@[simp] def ayi (x:Case):(cq x).c 19=.int x.sign:=zyy
@[simp] def ayj (x:Case):(cq x).c 20=.int x.holder:=zyy
@[simp] def ayk (x:Case):(cq x).c 21=.int x.defence:=zyy
@[simp] def ayl (x:Case):(cq x).c 22=.int x.due:=zyy
@[simp] def aym (x:Case):(cq x).c 23=.int x.day:=zyy
def cases(l:List Case):D:=.list (l.map cq)
abbrev axd:Ty:=.agg [.int .i64,.int .i64,.int .i64,.int .i64,.int .i64,.int .i64,.int .i64,.int .i64,.int .i64,.int .i64,.int .i64,.int .i64,.int .i64,.int .i64,.int .i64,.slice Xh,.slice W7,.slice W5,.slice Xa,.int .i64,.int .i64,.int .i64,.int .i64,.int .i64]
def Case.OK (x:Case):Prop:=File.OK x.file/\aX x.sign/\aX x.holder/\aX x.defence/\aX x.due/\aX x.day
def aiO {d:D}(h:DTy axd d):∃x:Case,d=cq x/\x.OK:=by
 obtain⟨ds,rfl,hs⟩:=h.agg_inv;obtain⟨d0,ds,rfl,h0,hs⟩:=hs.cons_inv;obtain⟨d1,ds,rfl,h1,hs⟩:=hs.cons_inv;obtain⟨d2,ds,rfl,h2,hs⟩:=hs.cons_inv;obtain⟨d3,ds,rfl,h3,hs⟩:=hs.cons_inv;obtain⟨d4,ds,rfl,h4,hs⟩:=hs.cons_inv;obtain⟨d5,ds,rfl,h5,hs⟩:=hs.cons_inv;obtain⟨d6,ds,rfl,h6,hs⟩:=hs.cons_inv;obtain⟨d7,ds,rfl,h7,hs⟩:=hs.cons_inv;obtain⟨d8,ds,rfl,h8,hs⟩:=hs.cons_inv;obtain⟨d9,ds,rfl,h9,hs⟩:=hs.cons_inv;obtain⟨d10,ds,rfl,j9,hs⟩:=hs.cons_inv;obtain⟨d11,ds,rfl,kK,hs⟩:=hs.cons_inv;obtain⟨d12,ds,rfl,sd,hs⟩:=hs.cons_inv;obtain⟨d13,ds,rfl,ZH,hs⟩:=hs.cons_inv;obtain⟨d14,ds,rfl,ua,hs⟩:=hs.cons_inv;obtain⟨d15,ds,rfl,mG,hs⟩:=hs.cons_inv;obtain⟨d16,ds,rfl,Kb,hs⟩:=hs.cons_inv;obtain⟨d17,ds,rfl,ub,hs⟩:=hs.cons_inv;obtain⟨d18,ds,rfl,se,hs⟩:=hs.cons_inv;obtain⟨d19,ds,rfl,Kc,hs⟩:=hs.cons_inv;obtain⟨d20,ds,rfl,h20,hs⟩:=hs.cons_inv;obtain⟨d21,ds,rfl,h21,hs⟩:=hs.cons_inv;obtain⟨d22,ds,rfl,h22,hs⟩:=hs.cons_inv;obtain⟨d23,ds,rfl,h23,hs⟩:=hs.cons_inv;obtain rfl:=hs.nil_inv;obtain⟨n0,rfl,b0⟩:=h0.i64_inv;obtain⟨n1,rfl,b1⟩:=h1.i64_inv;obtain⟨n2,rfl,b2⟩:=h2.i64_inv;obtain⟨n3,rfl,b3⟩:=h3.i64_inv;obtain⟨n4,rfl,b4⟩:=h4.i64_inv;obtain⟨n5,rfl,b5⟩:=h5.i64_inv;obtain⟨n6,rfl,b6⟩:=h6.i64_inv;obtain⟨n7,rfl,b7⟩:=h7.i64_inv;obtain⟨n8,rfl,b8⟩:=h8.i64_inv;obtain⟨n9,rfl,b9⟩:=h9.i64_inv;obtain⟨n10,rfl,b10⟩:=j9.i64_inv;obtain⟨n11,rfl,b11⟩:=kK.i64_inv;obtain⟨n12,rfl,b12⟩:=sd.i64_inv;obtain⟨n13,rfl,b13⟩:=ZH.i64_inv;obtain⟨n14,rfl,b14⟩:=ua.i64_inv;obtain⟨n15,rfl,b15,c15⟩:=aus mG;obtain⟨n16,rfl,b16,c16⟩:=aia Kb;obtain⟨n17,rfl,b17,c17⟩:=ah1 ub;obtain⟨n18,rfl,b18,od⟩:=aky se;obtain⟨n19,rfl,b19⟩:=Kc.i64_inv;obtain⟨n20,rfl,b20⟩:=h20.i64_inv;obtain⟨n21,rfl,b21⟩:=h21.i64_inv;obtain⟨n22,rfl,b22⟩:=h22.i64_inv;obtain⟨n23,rfl,b23⟩:=h23.i64_inv;exact⟨⟨⟨⟨n0,n1,n2,n3,n4,⟨n5,n6,n7⟩,n8,n9,n10,n11,n12,n13,n14⟩,n15,n16,n17,n18⟩,n19,n20,n21,n22,n23⟩,rfl,⟨⟨⟨b0,b1,b2,b3,b4,⟨b5,b6,b7⟩,b8,b9,b10,b11,b12,b13,b14⟩,⟨b15,c15⟩,⟨b16,c16⟩,⟨b17,c17⟩,⟨b18,od⟩⟩,b19,b20,b21,b22,b23⟩⟩
structure Cell where
 known:Bool
 n:Int
 deriving DecidableEq,Inhabited
def cu (x:Cell):D:=.agg [.bool x.known,.int x.n]
@[simp] def ayr (x:Cell):(cu x).cells=[.bool x.known,.int x.n]:=zyy
@[simp] def aCI (x:Cell):D.agg [.bool x.known,.int x.n]=cu x:=zyy
@[simp] def ayp (x:Cell):(cu x).c 0=.bool x.known:=zyy
@[simp] def ayq (x:Cell):(cu x).c 1=.int x.n:=zyy
def cells (l:List Cell):D:=.list (l.map cu)
@[simp] def aAo (l:List Cell):(cells l).l=l.map cu:=zyy
@[simp] def aAn (l:List Cell):(cells l).cells=[cells l]:=zyy
structure Said where
 cell:Cell
 order:Int
 path:List Int
 err:Int
 deriving Inhabited
def D3 (x:Said):D:=.agg [.bool x.cell.known,.int x.cell.n,.int x.order,ints x.path,.int x.err]
@[simp] def azq (x:Said):(D3 x).cells=[.bool x.cell.known,.int x.cell.n,.int x.order,ints x.path,.int x.err]:=zyy
@[simp] def aDI (a0 x0:D):eh [a0] 0 [x0]=[x0]:=zyy
@[simp] def aDJ (a0 a1 x0 x1:D):eh [a0,a1] 0 [x0,x1]=[x0,x1]:=zyy
@[simp] def aDK (a0 a1 a2 x0 x1 x2:D):eh [a0,a1,a2] 0 [x0,x1,x2]=[x0,x1,x2]:=zyy
@[simp] def aDL (a0 a1 a2 a3 x0 x1 x2 x3:D):eh [a0,a1,a2,a3] 0 [x0,x1,x2,x3]=[x0,x1,x2,x3]:=zyy
@[simp] def aDM (a0 a1 a2 a3 a4 x0 x1 x2 x3 x4:D):eh [a0,a1,a2,a3,a4] 0 [x0,x1,x2,x3,x4]=[x0,x1,x2,x3,x4]:=zyy
@[simp] def aDN (a0 a1 a2 a3 a4 a5 x0 x1 x2 x3 x4 x5:D):eh [a0,a1,a2,a3,a4,a5] 0 [x0,x1,x2,x3,x4,x5]=[x0,x1,x2,x3,x4,x5]:=zyy
@[simp] def aDO (a0 a1 a2 a3 a4 a5 a6 a7 a8 x0 x1 x2 x3 x4 x5 x6 x7 x8:D):eh [a0,a1,a2,a3,a4,a5,a6,a7,a8] 0 [x0,x1,x2,x3,x4,x5,x6,x7,x8]=[x0,x1,x2,x3,x4,x5,x6,x7,x8]:=zyy
end Rm
