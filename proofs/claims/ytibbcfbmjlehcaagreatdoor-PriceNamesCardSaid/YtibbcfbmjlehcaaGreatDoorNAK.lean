/-
  What comes in as Lean's own data: realms, files, cases.
-/
import Derived.Test.YtibbcfbmjlehcaaGreatDoorNAI
set_option linter.defProp false
set_option linter.unusedSimpArgs false
set_option linter.unusedVariables false
namespace Rm
open Go Cx
abbrev str (b:ByteArray):D:=.v (.string b)
def strs (l:List ByteArray):D:=.list (l.map str)
@[simp] def axt (l:List ByteArray):(strs l).l=l.map str:=zyz
def str_inv {d:D}(h:DTy .str d):∃b,d=str b:=by
 cases h with
 |str b=>exact⟨b,rfl⟩
 |other t d h=>exact h.elim
def axs {d:D}(h:DTy (.slice .str) d):∃l:List ByteArray,d=strs l/\l.length<=maxLen:=by
 obtain⟨xs,rfl,hm,hx⟩:=h.slice_inv;obtain⟨l,rfl,hl⟩:=kC (enc:=str) (P:=λ_=>True) λx hh=>(str_inv (hx x hh)).imp λb hb=>⟨hb,trivial⟩
 exact⟨l,rfl,by simpa using hm⟩
@[simp] def aCZ (t:Tm):(dS t).cells=[.int t.op,.int t.n,.list (t.args.map dS)]:=by rw[ES];rfl
@[simp] def aC0 (t:Tm):D.agg [.int t.op,.int t.n,.list (t.args.map dS)]=dS t:=(ES t).symm
@[simp] def aCW (t:Tm):(dS t).c 0=.int t.op:=by rw[ES];rfl
@[simp] def aCX (t:Tm):(dS t).c 1=.int t.n:=by rw[ES];rfl
@[simp] def aCY (t:Tm):(dS t).c 2=.list (t.args.map dS):=by rw[ES];rfl
structure City where
 name:ByteArray
 order:Int
 currency:Int
 rest:List Int
 feasts:List Int
 shut:List Int
 deriving Inhabited
def gR (x:City):D:=.agg [str x.name,.int x.order,.int x.currency,ints x.rest,ints x.feasts,ints x.shut]
@[simp] def aBP (x:City):(gR x).cells=[str x.name,.int x.order,.int x.currency,ints x.rest,ints x.feasts,ints x.shut]:=zyz
@[simp] def aGR (x:City):D.agg [str x.name,.int x.order,.int x.currency,ints x.rest,ints x.feasts,ints x.shut]=gR x:=zyz
@[simp] def aDH (x:City):kh 6 (gR x)=gR x:=zyz
@[simp] def aBJ (x:City):(gR x).c 0=str x.name:=zyz
@[simp] def aBK (x:City):(gR x).c 1=.int x.order:=zyz
@[simp] def aBL (x:City):(gR x).c 2=.int x.currency:=zyz
@[simp] def aBM (x:City):(gR x).c 3=ints x.rest:=zyz
@[simp] def aBN (x:City):(gR x).c 4=ints x.feasts:=zyz
@[simp] def aBO (x:City):(gR x).c 5=ints x.shut:=zyz
def pC (l:List City):D:=.list (l.map gR)
@[simp] def aD8 (l:List City):(pC l).l=l.map gR:=zyz
abbrev Zv:Ty:=.agg [.str,.int .i64,.int .i64,.slice (.int .i64),.slice (.int .i64),.slice (.int .i64)]
def City.OK (x:City):Prop:=aZ x.order/\aZ x.currency/\(x.rest.length<=maxLen/\∀y,y∈x.rest->aZ y)/\(x.feasts.length<=maxLen/\∀y,y∈x.feasts->aZ y)/\(x.shut.length<=maxLen/\∀y,y∈x.shut->aZ y)
def alM {d:D}(h:DTy Zv d):∃x:City,d=gR x/\x.OK:=by
 obtain⟨ds,rfl,hs⟩:=h.agg_inv;obtain⟨d0,ds,rfl,h0,hs⟩:=hs.cons_inv;obtain⟨d1,ds,rfl,h1,hs⟩:=hs.cons_inv;obtain⟨d2,ds,rfl,h2,hs⟩:=hs.cons_inv;obtain⟨d3,ds,rfl,h3,hs⟩:=hs.cons_inv;obtain⟨d4,ds,rfl,h4,hs⟩:=hs.cons_inv;obtain⟨d5,ds,rfl,h5,hs⟩:=hs.cons_inv;obtain rfl:=hs.nil_inv;obtain⟨n0,rfl⟩:=str_inv h0;obtain⟨n1,rfl,b1⟩:=h1.i64_inv;obtain⟨n2,rfl,b2⟩:=h2.i64_inv;obtain⟨n3,rfl,b3,c3⟩:=h3.ints_inv;obtain⟨n4,rfl,b4,c4⟩:=h4.ints_inv;obtain⟨n5,rfl,b5,c5⟩:=h5.ints_inv;exact⟨⟨n0,n1,n2,n3,n4,n5⟩,rfl,⟨b1,b2,⟨b3,c3⟩,⟨b4,c4⟩,⟨b5,c5⟩⟩⟩
def alN {d:D}(h:DTy (.slice Zv) d):∃l:List City,d=pC l/\l.length<=maxLen/\∀y,y∈l->City.OK y:=by
 obtain⟨xs,rfl,hm,hx⟩:=h.slice_inv;obtain⟨l,rfl,hl⟩:=kC (enc:=gR) (P:=City.OK) λx hh=>alM (hx x hh);exact⟨l,rfl,by simpa using hm,hl⟩
structure Firm where
 name:ByteArray
 city:Int
 group:Int
 deriving Inhabited
def re (x:Firm):D:=.agg [str x.name,.int x.city,.int x.group]
@[simp] def aB9 (x:Firm):(re x).cells=[str x.name,.int x.city,.int x.group]:=zyz
@[simp] def aGV (x:Firm):D.agg [str x.name,.int x.city,.int x.group]=re x:=zyz
@[simp] def aB6 (x:Firm):(re x).c 0=str x.name:=zyz
@[simp] def aB7 (x:Firm):(re x).c 1=.int x.city:=zyz
@[simp] def aB8 (x:Firm):(re x).c 2=.int x.group:=zyz
def firms (l:List Firm):D:=.list (l.map re)
@[simp] def aFp (l:List Firm):(firms l).l=l.map re:=zyz
@[simp] def aFo (l:List Firm):(firms l).cells=[firms l]:=zyz
abbrev Zx:Ty:=.agg [.str,.int .i64,.int .i64]
def Firm.OK (x:Firm):Prop:=aZ x.city/\aZ x.group
def anK {d:D}(h:DTy Zx d):∃x:Firm,d=re x/\x.OK:=by
 obtain⟨ds,rfl,hs⟩:=h.agg_inv;obtain⟨d0,ds,rfl,h0,hs⟩:=hs.cons_inv;obtain⟨d1,ds,rfl,h1,hs⟩:=hs.cons_inv;obtain⟨d2,ds,rfl,h2,hs⟩:=hs.cons_inv;obtain rfl:=hs.nil_inv;obtain⟨n0,rfl⟩:=str_inv h0;obtain⟨n1,rfl,b1⟩:=h1.i64_inv;obtain⟨n2,rfl,b2⟩:=h2.i64_inv;exact⟨⟨n0,n1,n2⟩,rfl,⟨b1,b2⟩⟩
def anM {d:D}(h:DTy (.slice Zx) d):∃l:List Firm,d=firms l/\l.length<=maxLen/\∀y,y∈l->Firm.OK y:=by
 obtain⟨xs,rfl,hm,hx⟩:=h.slice_inv;obtain⟨l,rfl,hl⟩:=kC (enc:=re) (P:=Firm.OK) λx hh=>anK (hx x hh);exact⟨l,rfl,by simpa using hm,hl⟩
structure Group where
 grade:Int
 deriving DecidableEq,Inhabited
def sM (x:Group):D:=.agg [.int x.grade]
@[simp] def aCb (x:Group):(sM x).cells=[.int x.grade]:=zyz
@[simp] def aGW (x:Group):D.agg [.int x.grade]=sM x:=zyz
@[simp] def aCa (x:Group):(sM x).c 0=.int x.grade:=zyz
def groups (l:List Group):D:=.list (l.map sM)
@[simp] def aFz (l:List Group):(groups l).l=l.map sM:=zyz
abbrev Zy:Ty:=.agg [.int .i64]
def Group.OK (x:Group):Prop:=aZ x.grade
def ao7 {d:D}(h:DTy Zy d):∃x:Group,d=sM x/\x.OK:=by
 obtain⟨ds,rfl,hs⟩:=h.agg_inv;obtain⟨d0,ds,rfl,h0,hs⟩:=hs.cons_inv;obtain rfl:=hs.nil_inv;obtain⟨n0,rfl,b0⟩:=h0.i64_inv;exact⟨⟨n0⟩,rfl,b0⟩
def apa {d:D}(h:DTy (.slice Zy) d):∃l:List Group,d=groups l/\l.length<=maxLen/\∀y,y∈l->Group.OK y:=by
 obtain⟨xs,rfl,hm,hx⟩:=h.slice_inv;obtain⟨l,rfl,hl⟩:=kC (enc:=sM) (P:=Group.OK) λx hh=>ao7 (hx x hh);exact⟨l,rfl,by simpa using hm,hl⟩
structure Usance where
 fr:Int
 to:Int
 days:Int
 deriving DecidableEq,Inhabited
def uv (x:Usance):D:=.agg [.int x.fr,.int x.to,.int x.days]
@[simp] def aC9 (x:Usance):(uv x).cells=[.int x.fr,.int x.to,.int x.days]:=zyz
@[simp] def aG8 (x:Usance):D.agg [.int x.fr,.int x.to,.int x.days]=uv x:=zyz
@[simp] def aC6 (x:Usance):(uv x).c 0=.int x.fr:=zyz
@[simp] def aC7 (x:Usance):(uv x).c 1=.int x.to:=zyz
@[simp] def aC8 (x:Usance):(uv x).c 2=.int x.days:=zyz
def usances (l:List Usance):D:=.list (l.map uv)
@[simp] def aIg (l:List Usance):(usances l).l=l.map uv:=zyz
abbrev ZE:Ty:=.agg [.int .i64,.int .i64,.int .i64]
def Usance.OK (x:Usance):Prop:=aZ x.fr/\aZ x.to/\aZ x.days
def aAp {d:D}(h:DTy ZE d):∃x:Usance,d=uv x/\x.OK:=by
 obtain⟨ds,rfl,hs⟩:=h.agg_inv;obtain⟨d0,ds,rfl,h0,hs⟩:=hs.cons_inv;obtain⟨d1,ds,rfl,h1,hs⟩:=hs.cons_inv;obtain⟨d2,ds,rfl,h2,hs⟩:=hs.cons_inv;obtain rfl:=hs.nil_inv;obtain⟨n0,rfl,b0⟩:=h0.i64_inv;obtain⟨n1,rfl,b1⟩:=h1.i64_inv;obtain⟨n2,rfl,b2⟩:=h2.i64_inv;exact⟨⟨n0,n1,n2⟩,rfl,⟨b0,b1,b2⟩⟩
def aAq {d:D}(h:DTy (.slice ZE) d):∃l:List Usance,d=usances l/\l.length<=maxLen/\∀y,y∈l->Usance.OK y:=by
 obtain⟨xs,rfl,hm,hx⟩:=h.slice_inv;obtain⟨l,rfl,hl⟩:=kC (enc:=uv) (P:=Usance.OK) λx hh=>aAp (hx x hh);exact⟨l,rfl,by simpa using hm,hl⟩
structure Rate where
 fr:Int
 to:Int
 num:Int
 den:Int
 since:Int
 deriving DecidableEq,Inhabited
def rf (x:Rate):D:=.agg [.int x.fr,.int x.to,.int x.num,.int x.den,.int x.since]
@[simp] def aCt (x:Rate):(rf x).cells=[.int x.fr,.int x.to,.int x.num,.int x.den,.int x.since]:=zyz
@[simp] def aG0 (x:Rate):D.agg [.int x.fr,.int x.to,.int x.num,.int x.den,.int x.since]=rf x:=zyz
@[simp] def aCo (x:Rate):(rf x).c 0=.int x.fr:=zyz
@[simp] def aCp (x:Rate):(rf x).c 1=.int x.to:=zyz
@[simp] def aCq (x:Rate):(rf x).c 2=.int x.num:=zyz
@[simp] def aCr (x:Rate):(rf x).c 3=.int x.den:=zyz
@[simp] def aCs (x:Rate):(rf x).c 4=.int x.since:=zyz
def rates (l:List Rate):D:=.list (l.map rf)
@[simp] def aHz (l:List Rate):(rates l).l=l.map rf:=zyz
abbrev ZB:Ty:=.agg [.int .i64,.int .i64,.int .i64,.int .i64,.int .i64]
def Rate.OK (x:Rate):Prop:=aZ x.fr/\aZ x.to/\aZ x.num/\aZ x.den/\aZ x.since
def awj {d:D}(h:DTy ZB d):∃x:Rate,d=rf x/\x.OK:=by
 obtain⟨ds,rfl,hs⟩:=h.agg_inv;obtain⟨d0,ds,rfl,h0,hs⟩:=hs.cons_inv;obtain⟨d1,ds,rfl,h1,hs⟩:=hs.cons_inv;obtain⟨d2,ds,rfl,h2,hs⟩:=hs.cons_inv;obtain⟨d3,ds,rfl,h3,hs⟩:=hs.cons_inv;obtain⟨d4,ds,rfl,h4,hs⟩:=hs.cons_inv;obtain rfl:=hs.nil_inv;obtain⟨n0,rfl,b0⟩:=h0.i64_inv;obtain⟨n1,rfl,b1⟩:=h1.i64_inv;obtain⟨n2,rfl,b2⟩:=h2.i64_inv;obtain⟨n3,rfl,b3⟩:=h3.i64_inv;obtain⟨n4,rfl,b4⟩:=h4.i64_inv;exact⟨⟨n0,n1,n2,n3,n4⟩,rfl,⟨b0,b1,b2,b3,b4⟩⟩
def awk {d:D}(h:DTy (.slice ZB) d):∃l:List Rate,d=rates l/\l.length<=maxLen/\∀y,y∈l->Rate.OK y:=by
 obtain⟨xs,rfl,hm,hx⟩:=h.slice_inv;obtain⟨l,rfl,hl⟩:=kC (enc:=rf) (P:=Rate.OK) λx hh=>awj (hx x hh);exact⟨l,rfl,by simpa using hm,hl⟩
structure Halt where
 order:Int
 fr:Int
 to:Int
 deriving DecidableEq,Inhabited
def ur (x:Halt):D:=.agg [.int x.order,.int x.fr,.int x.to]
@[simp] def aCf (x:Halt):(ur x).cells=[.int x.order,.int x.fr,.int x.to]:=zyz
@[simp] def aGX (x:Halt):D.agg [.int x.order,.int x.fr,.int x.to]=ur x:=zyz
@[simp] def aCc (x:Halt):(ur x).c 0=.int x.order:=zyz
@[simp] def aCd (x:Halt):(ur x).c 1=.int x.fr:=zyz
@[simp] def aCe (x:Halt):(ur x).c 2=.int x.to:=zyz
def halts (l:List Halt):D:=.list (l.map ur)
@[simp] def aFK (l:List Halt):(halts l).l=l.map ur:=zyz
abbrev Zz:Ty:=.agg [.int .i64,.int .i64,.int .i64]
def Halt.OK (x:Halt):Prop:=aZ x.order/\aZ x.fr/\aZ x.to
def apD {d:D}(h:DTy Zz d):∃x:Halt,d=ur x/\x.OK:=by
 obtain⟨ds,rfl,hs⟩:=h.agg_inv;obtain⟨d0,ds,rfl,h0,hs⟩:=hs.cons_inv;obtain⟨d1,ds,rfl,h1,hs⟩:=hs.cons_inv;obtain⟨d2,ds,rfl,h2,hs⟩:=hs.cons_inv;obtain rfl:=hs.nil_inv;obtain⟨n0,rfl,b0⟩:=h0.i64_inv;obtain⟨n1,rfl,b1⟩:=h1.i64_inv;obtain⟨n2,rfl,b2⟩:=h2.i64_inv;exact⟨⟨n0,n1,n2⟩,rfl,⟨b0,b1,b2⟩⟩
def apE {d:D}(h:DTy (.slice Zz) d):∃l:List Halt,d=halts l/\l.length<=maxLen/\∀y,y∈l->Halt.OK y:=by
 obtain⟨xs,rfl,hm,hx⟩:=h.slice_inv;obtain⟨l,rfl,hl⟩:=kC (enc:=ur) (P:=Halt.OK) λx hh=>apD (hx x hh);exact⟨l,rfl,by simpa using hm,hl⟩
structure Choice where
 ask:Int
 by_:Int
 whole:Bool
 deriving DecidableEq,Inhabited
def vH (x:Choice):D:=.agg [.int x.ask,.int x.by_,.bool x.whole]
@[simp] def aBI (x:Choice):(vH x).cells=[.int x.ask,.int x.by_,.bool x.whole]:=zyz
@[simp] def aGQ (x:Choice):D.agg [.int x.ask,.int x.by_,.bool x.whole]=vH x:=zyz
@[simp] def aBG (x:Choice):(vH x).c 0=.int x.ask:=zyz
@[simp] def aBH (x:Choice):(vH x).c 1=.int x.by_:=zyz
def choices (l:List Choice):D:=.list (l.map vH)
@[simp] def aD7 (l:List Choice):(choices l).l=l.map vH:=zyz
abbrev Zu:Ty:=.agg [.int .i64,.int .i64,.bool]
def Choice.OK (x:Choice):Prop:=aZ x.ask/\aZ x.by_
def alJ {d:D}(h:DTy Zu d):∃x:Choice,d=vH x/\x.OK:=by
 obtain⟨ds,rfl,hs⟩:=h.agg_inv;obtain⟨d0,ds,rfl,h0,hs⟩:=hs.cons_inv;obtain⟨d1,ds,rfl,h1,hs⟩:=hs.cons_inv;obtain⟨d2,ds,rfl,h2,hs⟩:=hs.cons_inv;obtain rfl:=hs.nil_inv;obtain⟨n0,rfl,b0⟩:=h0.i64_inv;obtain⟨n1,rfl,b1⟩:=h1.i64_inv;obtain⟨n2,rfl⟩:=h2.bool_inv;exact⟨⟨n0,n1,n2⟩,rfl,⟨b0,b1⟩⟩
def alK {d:D}(h:DTy (.slice Zu) d):∃l:List Choice,d=choices l/\l.length<=maxLen/\∀y,y∈l->Choice.OK y:=by
 obtain⟨xs,rfl,hm,hx⟩:=h.slice_inv;obtain⟨l,rfl,hl⟩:=kC (enc:=vH) (P:=Choice.OK) λx hh=>alJ (hx x hh);exact⟨l,rfl,by simpa using hm,hl⟩
structure Rule where
 ask:Int
 term:Tm
 deriving Inhabited
def uu (x:Rule):D:=.agg [.int x.ask,.int x.term.op,.int x.term.n,.list (x.term.args.map dS)]
@[simp] def aCH (x:Rule):(uu x).cells=[.int x.ask,.int x.term.op,.int x.term.n,.list (x.term.args.map dS)]:=zyz
@[simp] def aG3 (x:Rule):D.agg [.int x.ask,.int x.term.op,.int x.term.n,.list (x.term.args.map dS)]=uu x:=zyz
@[simp] def aCG (x:Rule):(uu x).c 0=.int x.ask:=zyz
def rules (l:List Rule):D:=.list (l.map uu)
@[simp] def aHG (l:List Rule):(rules l).l=l.map uu:=zyz
abbrev ZC:Ty:=.agg [.int .i64,.int .i64,.int .i64,.slice .trm]
def Rule.OK (x:Rule):Prop:=aZ x.ask/\Tm.OK x.term
def awT {d:D}(h:DTy ZC d):∃x:Rule,d=uu x/\x.OK:=by
 obtain⟨ds,rfl,hs⟩:=h.agg_inv;obtain⟨d0,ds,rfl,h0,hs⟩:=hs.cons_inv;obtain⟨d1,ds,rfl,h1,hs⟩:=hs.cons_inv;obtain⟨d2,ds,rfl,h2,hs⟩:=hs.cons_inv;obtain⟨d3,ds,rfl,h3,hs⟩:=hs.cons_inv;obtain rfl:=hs.nil_inv;obtain⟨n0,rfl,b0⟩:=h0.i64_inv;obtain⟨n1,rfl,b1⟩:=h1.i64_inv;obtain⟨n2,rfl,b2⟩:=h2.i64_inv;obtain⟨n3,rfl,b3,c3⟩:=h3.trms_inv;exact⟨⟨n0,.mk n1 n2 n3⟩,rfl,⟨b0,.mk _ _ _ b1 b2 b3 c3⟩⟩
def awU {d:D}(h:DTy (.slice ZC) d):∃l:List Rule,d=rules l/\l.length<=maxLen/\∀y,y∈l->Rule.OK y:=by
 obtain⟨xs,rfl,hm,hx⟩:=h.slice_inv;obtain⟨l,rfl,hl⟩:=kC (enc:=uu) (P:=Rule.OK) λx hh=>awT (hx x hh);exact⟨l,rfl,by simpa using hm,hl⟩
structure Order where
 name:ByteArray
 accepts:Bool
 choices:List Choice
 rules:List Rule
 deriving Inhabited
def kl (x:Order):D:=.agg [str x.name,.bool x.accepts,choices x.choices,rules x.rules]
@[simp] def aCk (x:Order):(kl x).cells=[str x.name,.bool x.accepts,choices x.choices,rules x.rules]:=zyz
@[simp] def aGY (x:Order):D.agg [str x.name,.bool x.accepts,choices x.choices,rules x.rules]=kl x:=zyz
@[simp] def aDJ (x:Order):kh 4 (kl x)=kl x:=zyz
@[simp] def aCg (x:Order):(kl x).c 0=str x.name:=zyz
@[simp] def aCh (x:Order):(kl x).c 1=.bool x.accepts:=zyz
@[simp] def aCi (x:Order):(kl x).c 2=choices x.choices:=zyz
@[simp] def aCj (x:Order):(kl x).c 3=rules x.rules:=zyz
def orders (l:List Order):D:=.list (l.map kl)
@[simp] def aHj (l:List Order):(orders l).l=l.map kl:=zyz
abbrev ZA:Ty:=.agg [.str,.bool,.slice Zu,.slice ZC]
def Order.OK (x:Order):Prop:=(x.choices.length<=maxLen/\∀y,y∈x.choices->Choice.OK y)/\(x.rules.length<=maxLen/\∀y,y∈x.rules->Rule.OK y)
def au3 {d:D}(h:DTy ZA d):∃x:Order,d=kl x/\x.OK:=by
 obtain⟨ds,rfl,hs⟩:=h.agg_inv;obtain⟨d0,ds,rfl,h0,hs⟩:=hs.cons_inv;obtain⟨d1,ds,rfl,h1,hs⟩:=hs.cons_inv;obtain⟨d2,ds,rfl,h2,hs⟩:=hs.cons_inv;obtain⟨d3,ds,rfl,h3,hs⟩:=hs.cons_inv;obtain rfl:=hs.nil_inv;obtain⟨n0,rfl⟩:=str_inv h0;obtain⟨n1,rfl⟩:=h1.bool_inv;obtain⟨n2,rfl,b2,c2⟩:=alK h2;obtain⟨n3,rfl,b3,c3⟩:=awU h3;exact⟨⟨n0,n1,n2,n3⟩,rfl,⟨⟨b2,c2⟩,⟨b3,c3⟩⟩⟩
def au4 {d:D}(h:DTy (.slice ZA) d):∃l:List Order,d=orders l/\l.length<=maxLen/\∀y,y∈l->Order.OK y:=by
 obtain⟨xs,rfl,hm,hx⟩:=h.slice_inv;obtain⟨l,rfl,hl⟩:=kC (enc:=kl) (P:=Order.OK) λx hh=>au3 (hx x hh);exact⟨l,rfl,by simpa using hm,hl⟩
structure Realm where
 currencies:List ByteArray
 cities:List City
 groups:List Group
 firms:List Firm
 orders:List Order
 usances:List Usance
 rates:List Rate
 halts:List Halt
 deriving Inhabited
abbrev zzy (x:Realm):List D:=[strs x.currencies,pC x.cities,groups x.groups,firms x.firms,orders x.orders,usances x.usances,rates x.rates,halts x.halts]
def aP (x:Realm):D:=.agg (zzy x)
@[simp] def aCF (x:Realm):(aP x).cells=(zzy x):=zyz
@[simp] def aG2 (x:Realm):D.agg (zzy x)=aP x:=zyz
@[simp] def aDK (x:Realm):kh 8 (aP x)=aP x:=zyz
@[simp] def aHn (x:Realm)(a0 a1 a2 a3 a4 a5 a6 a7:D):D.agg (dO [a0,a1,a2,a3,a4,a5,a6,a7] 0 (zzy x))=aP x:=zyz
@[simp] def aCx (x:Realm):(aP x).c 0=strs x.currencies:=zyz
@[simp] def aCy (x:Realm):(aP x).c 1=pC x.cities:=zyz
@[simp] def aCz (x:Realm):(aP x).c 2=groups x.groups:=zyz
@[simp] def aCA (x:Realm):(aP x).c 3=firms x.firms:=zyz
@[simp] def aCB (x:Realm):(aP x).c 4=orders x.orders:=zyz
@[simp] def aCC (x:Realm):(aP x).c 5=usances x.usances:=zyz
@[simp] def aCD (x:Realm):(aP x).c 6=rates x.rates:=zyz
@[simp] def aCE (x:Realm):(aP x).c 7=halts x.halts:=zyz
abbrev aAj:Ty:=.agg [.slice .str,.slice Zv,.slice Zy,.slice Zx,.slice ZA,.slice ZE,.slice ZB,.slice Zz]
def Realm.OK (x:Realm):Prop:=x.currencies.length<=maxLen/\(x.cities.length<=maxLen/\∀y,y∈x.cities->City.OK y)/\(x.groups.length<=maxLen/\∀y,y∈x.groups->Group.OK y)/\(x.firms.length<=maxLen/\∀y,y∈x.firms->Firm.OK y)/\(x.orders.length<=maxLen/\∀y,y∈x.orders->Order.OK y)/\(x.usances.length<=maxLen/\∀y,y∈x.usances->Usance.OK y)/\(x.rates.length<=maxLen/\∀y,y∈x.rates->Rate.OK y)/\(x.halts.length<=maxLen/\∀y,y∈x.halts->Halt.OK y)
def awv {d:D}(h:DTy aAj d):∃x:Realm,d=aP x/\x.OK:=by
 obtain⟨ds,rfl,hs⟩:=h.agg_inv;obtain⟨d0,ds,rfl,h0,hs⟩:=hs.cons_inv;obtain⟨d1,ds,rfl,h1,hs⟩:=hs.cons_inv;obtain⟨d2,ds,rfl,h2,hs⟩:=hs.cons_inv;obtain⟨d3,ds,rfl,h3,hs⟩:=hs.cons_inv;obtain⟨d4,ds,rfl,h4,hs⟩:=hs.cons_inv;obtain⟨d5,ds,rfl,h5,hs⟩:=hs.cons_inv;obtain⟨d6,ds,rfl,h6,hs⟩:=hs.cons_inv;obtain⟨d7,ds,rfl,h7,hs⟩:=hs.cons_inv;obtain rfl:=hs.nil_inv;obtain⟨n0,rfl,b0⟩:=axs h0;obtain⟨n1,rfl,b1,c1⟩:=alN h1;obtain⟨n2,rfl,b2,c2⟩:=apa h2;obtain⟨n3,rfl,b3,c3⟩:=anM h3;obtain⟨n4,rfl,b4,c4⟩:=au4 h4;obtain⟨n5,rfl,b5,c5⟩:=aAq h5;obtain⟨n6,rfl,b6,c6⟩:=awk h6;obtain⟨n7,rfl,b7,c7⟩:=apE h7;exact⟨⟨n0,n1,n2,n3,n4,n5,n6,n7⟩,rfl,⟨b0,⟨b1,c1⟩,⟨b2,c2⟩,⟨b3,c3⟩,⟨b4,c4⟩,⟨b5,c5⟩,⟨b6,c6⟩,⟨b7,c7⟩⟩⟩
structure Tenor where
 kind:Int
 n:Int
 unit:Int
 deriving DecidableEq,Inhabited
def pE (x:Tenor):D:=.agg [.int x.kind,.int x.n,.int x.unit]
@[simp] def aC4 (x:Tenor):(pE x).cells=[.int x.kind,.int x.n,.int x.unit]:=zyz
@[simp] def aG7 (x:Tenor):D.agg [.int x.kind,.int x.n,.int x.unit]=pE x:=zyz
@[simp] def aC1 (x:Tenor):(pE x).c 0=.int x.kind:=zyz
@[simp] def aC2 (x:Tenor):(pE x).c 1=.int x.n:=zyz
@[simp] def aC3 (x:Tenor):(pE x).c 2=.int x.unit:=zyz
def Tenor.OK (x:Tenor):Prop:=aZ x.kind/\aZ x.n/\aZ x.unit
structure Bill where
 drawer:Int
 drawee:Int
 payee:Int
 sum:Int
 currency:Int
 tenor:Tenor
 day:Int
 city:Int
 pay:Int
 need:Int
 rate:Int
 flags:Int
 parts:Int
 deriving DecidableEq,Inhabited
abbrev zzz (x:Bill):List D:=[.int x.drawer,.int x.drawee,.int x.payee,.int x.sum,.int x.currency,.int x.tenor.kind,.int x.tenor.n,.int x.tenor.unit,.int x.day,.int x.city,.int x.pay,.int x.need,.int x.rate,.int x.flags,.int x.parts]
def dI (x:Bill):D:=.agg (zzz x)
@[simp] def aBt (x:Bill):(dI x).cells=(zzz x):=zyz
@[simp] def aGN (x:Bill):D.agg (zzz x)=dI x:=zyz
@[simp] def aDG (x:Bill):kh 15 (dI x)=dI x:=zyz
@[simp] def aHk (x:Bill)(a0 a1 a2 a3 a4 a5 a6 a7 a8 a9 qJ qK a12 qL qM:D):D.agg (dO [a0,a1,a2,a3,a4,a5,a6,a7,a8,a9,qJ,qK,a12,qL,qM] 0 (zzz x))=dI x:=zyz
@[simp] def aBe (x:Bill):(dI x).c 0=.int x.drawer:=zyz
@[simp] def aBf (x:Bill):(dI x).c 1=.int x.drawee:=zyz
@[simp] def aBl (x:Bill):(dI x).c 2=.int x.payee:=zyz
@[simp] def aBm (x:Bill):(dI x).c 3=.int x.sum:=zyz
@[simp] def aBn (x:Bill):(dI x).c 4=.int x.currency:=zyz
@[simp] def aBo (x:Bill):(dI x).c 5=.int x.tenor.kind:=zyz
@[simp] def aBp (x:Bill):(dI x).c 6=.int x.tenor.n:=zyz
@[simp] def aBq (x:Bill):(dI x).c 7=.int x.tenor.unit:=zyz
@[simp] def aBr (x:Bill):(dI x).c 8=.int x.day:=zyz
@[simp] def aBs (x:Bill):(dI x).c 9=.int x.city:=zyz
@[simp] def aBg (x:Bill):(dI x).c 10=.int x.pay:=zyz
@[simp] def aBh (x:Bill):(dI x).c 11=.int x.need:=zyz
@[simp] def aBi (x:Bill):(dI x).c 12=.int x.rate:=zyz
@[simp] def aBj (x:Bill):(dI x).c 13=.int x.flags:=zyz
@[simp] def aBk (x:Bill):(dI x).c 14=.int x.parts:=zyz
def Bill.OK (x:Bill):Prop:=aZ x.drawer/\aZ x.drawee/\aZ x.payee/\aZ x.sum/\aZ x.currency/\Tenor.OK x.tenor/\aZ x.day/\aZ x.city/\aZ x.pay/\aZ x.need/\aZ x.rate/\aZ x.flags/\aZ x.parts
structure Sign where
 kind:Int
 part:Int
 who:Int
 for_:Int
 to:Int
 sum:Int
 day:Int
 city:Int
 flags:Int
 deriving DecidableEq,Inhabited
abbrev zzx (x:Sign):List D:=[.int x.kind,.int x.part,.int x.who,.int x.for_,.int x.to,.int x.sum,.int x.day,.int x.city,.int x.flags]
def kP (x:Sign):D:=.agg (zzx x)
@[simp] def aCV (x:Sign):(kP x).cells=(zzx x):=zyz
@[simp] def aG6 (x:Sign):D.agg (zzx x)=kP x:=zyz
@[simp] def aDM (x:Sign):kh 9 (kP x)=kP x:=zyz
@[simp] def aCM (x:Sign):(kP x).c 0=.int x.kind:=zyz
@[simp] def aCN (x:Sign):(kP x).c 1=.int x.part:=zyz
@[simp] def aCO (x:Sign):(kP x).c 2=.int x.who:=zyz
@[simp] def aCP (x:Sign):(kP x).c 3=.int x.for_:=zyz
@[simp] def aCQ (x:Sign):(kP x).c 4=.int x.to:=zyz
@[simp] def aCR (x:Sign):(kP x).c 5=.int x.sum:=zyz
@[simp] def aCS (x:Sign):(kP x).c 6=.int x.day:=zyz
@[simp] def aCT (x:Sign):(kP x).c 7=.int x.city:=zyz
@[simp] def aCU (x:Sign):(kP x).c 8=.int x.flags:=zyz
def signs (l:List Sign):D:=.list (l.map kP)
@[simp] def aHU (l:List Sign):(signs l).l=l.map kP:=zyz
@[simp] def aHT (l:List Sign):(signs l).cells=[signs l]:=zyz
abbrev ZD:Ty:=.agg [.int .i64,.int .i64,.int .i64,.int .i64,.int .i64,.int .i64,.int .i64,.int .i64,.int .i64]
def Sign.OK (x:Sign):Prop:=aZ x.kind/\aZ x.part/\aZ x.who/\aZ x.for_/\aZ x.to/\aZ x.sum/\aZ x.day/\aZ x.city/\aZ x.flags
def axe {d:D}(h:DTy ZD d):∃x:Sign,d=kP x/\x.OK:=by
 obtain⟨ds,rfl,hs⟩:=h.agg_inv;obtain⟨d0,ds,rfl,h0,hs⟩:=hs.cons_inv;obtain⟨d1,ds,rfl,h1,hs⟩:=hs.cons_inv;obtain⟨d2,ds,rfl,h2,hs⟩:=hs.cons_inv;obtain⟨d3,ds,rfl,h3,hs⟩:=hs.cons_inv;obtain⟨d4,ds,rfl,h4,hs⟩:=hs.cons_inv;obtain⟨d5,ds,rfl,h5,hs⟩:=hs.cons_inv;obtain⟨d6,ds,rfl,h6,hs⟩:=hs.cons_inv;obtain⟨d7,ds,rfl,h7,hs⟩:=hs.cons_inv;obtain⟨d8,ds,rfl,h8,hs⟩:=hs.cons_inv;obtain rfl:=hs.nil_inv;obtain⟨n0,rfl,b0⟩:=h0.i64_inv;obtain⟨n1,rfl,b1⟩:=h1.i64_inv;obtain⟨n2,rfl,b2⟩:=h2.i64_inv;obtain⟨n3,rfl,b3⟩:=h3.i64_inv;obtain⟨n4,rfl,b4⟩:=h4.i64_inv;obtain⟨n5,rfl,b5⟩:=h5.i64_inv;obtain⟨n6,rfl,b6⟩:=h6.i64_inv;obtain⟨n7,rfl,b7⟩:=h7.i64_inv;obtain⟨n8,rfl,b8⟩:=h8.i64_inv;exact⟨⟨n0,n1,n2,n3,n4,n5,n6,n7,n8⟩,rfl,⟨b0,b1,b2,b3,b4,b5,b6,b7,b8⟩⟩
def axg {d:D}(h:DTy (.slice ZD) d):∃l:List Sign,d=signs l/\l.length<=maxLen/\∀y,y∈l->Sign.OK y:=by
 obtain⟨xs,rfl,hm,hx⟩:=h.slice_inv;obtain⟨l,rfl,hl⟩:=kC (enc:=kP) (P:=Sign.OK) λx hh=>axe (hx x hh);exact⟨l,rfl,by simpa using hm,hl⟩
structure Alter where
 at_:Int
 sum:Int
 deriving DecidableEq,Inhabited
def q9 (x:Alter):D:=.agg [.int x.at_,.int x.sum]
@[simp] def aBd (x:Alter):(q9 x).cells=[.int x.at_,.int x.sum]:=zyz
@[simp] def aGM (x:Alter):D.agg [.int x.at_,.int x.sum]=q9 x:=zyz
@[simp] def aBb (x:Alter):(q9 x).c 0=.int x.at_:=zyz
@[simp] def aBc (x:Alter):(q9 x).c 1=.int x.sum:=zyz
def alters (l:List Alter):D:=.list (l.map q9)
@[simp] def aDQ (l:List Alter):(alters l).l=l.map q9:=zyz
@[simp] def aDP (l:List Alter):(alters l).cells=[alters l]:=zyz
abbrev Zt:Ty:=.agg [.int .i64,.int .i64]
def Alter.OK (x:Alter):Prop:=aZ x.at_/\aZ x.sum
def akG {d:D}(h:DTy Zt d):∃x:Alter,d=q9 x/\x.OK:=by
 obtain⟨ds,rfl,hs⟩:=h.agg_inv;obtain⟨d0,ds,rfl,h0,hs⟩:=hs.cons_inv;obtain⟨d1,ds,rfl,h1,hs⟩:=hs.cons_inv;obtain rfl:=hs.nil_inv;obtain⟨n0,rfl,b0⟩:=h0.i64_inv;obtain⟨n1,rfl,b1⟩:=h1.i64_inv;exact⟨⟨n0,n1⟩,rfl,⟨b0,b1⟩⟩
def akH {d:D}(h:DTy (.slice Zt) d):∃l:List Alter,d=alters l/\l.length<=maxLen/\∀y,y∈l->Alter.OK y:=by
 obtain⟨xs,rfl,hm,hx⟩:=h.slice_inv;obtain⟨l,rfl,hl⟩:=kC (enc:=q9) (P:=Alter.OK) λx hh=>akG (hx x hh);exact⟨l,rfl,by simpa using hm,hl⟩
structure Act where
 kind:Int
 who:Int
 to:Int
 part:Int
 at_:Int
 sum:Int
 day:Int
 city:Int
 form:Int
 deriving DecidableEq,Inhabited
abbrev zzw (x:Act):List D:=[.int x.kind,.int x.who,.int x.to,.int x.part,.int x.at_,.int x.sum,.int x.day,.int x.city,.int x.form]
def kj (x:Act):D:=.agg (zzw x)
@[simp] def aBa (x:Act):(kj x).cells=(zzw x):=zyz
@[simp] def aGL (x:Act):D.agg (zzw x)=kj x:=zyz
@[simp] def aDF (x:Act):kh 9 (kj x)=kj x:=zyz
@[simp] def aA1 (x:Act):(kj x).c 0=.int x.kind:=zyz
@[simp] def aA2 (x:Act):(kj x).c 1=.int x.who:=zyz
@[simp] def aA3 (x:Act):(kj x).c 2=.int x.to:=zyz
@[simp] def aA4 (x:Act):(kj x).c 3=.int x.part:=zyz
@[simp] def aA5 (x:Act):(kj x).c 4=.int x.at_:=zyz
@[simp] def aA6 (x:Act):(kj x).c 5=.int x.sum:=zyz
@[simp] def aA7 (x:Act):(kj x).c 6=.int x.day:=zyz
@[simp] def aA8 (x:Act):(kj x).c 7=.int x.city:=zyz
@[simp] def aA9 (x:Act):(kj x).c 8=.int x.form:=zyz
def acts (l:List Act):D:=.list (l.map kj)
@[simp] def aDz (l:List Act):(acts l).l=l.map kj:=zyz
@[simp] def aDy (l:List Act):(acts l).cells=[acts l]:=zyz
abbrev Zs:Ty:=.agg [.int .i64,.int .i64,.int .i64,.int .i64,.int .i64,.int .i64,.int .i64,.int .i64,.int .i64]
def Act.OK (x:Act):Prop:=aZ x.kind/\aZ x.who/\aZ x.to/\aZ x.part/\aZ x.at_/\aZ x.sum/\aZ x.day/\aZ x.city/\aZ x.form
def aky {d:D}(h:DTy Zs d):∃x:Act,d=kj x/\x.OK:=by
 obtain⟨ds,rfl,hs⟩:=h.agg_inv;obtain⟨d0,ds,rfl,h0,hs⟩:=hs.cons_inv;obtain⟨d1,ds,rfl,h1,hs⟩:=hs.cons_inv;obtain⟨d2,ds,rfl,h2,hs⟩:=hs.cons_inv;obtain⟨d3,ds,rfl,h3,hs⟩:=hs.cons_inv;obtain⟨d4,ds,rfl,h4,hs⟩:=hs.cons_inv;obtain⟨d5,ds,rfl,h5,hs⟩:=hs.cons_inv;obtain⟨d6,ds,rfl,h6,hs⟩:=hs.cons_inv;obtain⟨d7,ds,rfl,h7,hs⟩:=hs.cons_inv;obtain⟨d8,ds,rfl,h8,hs⟩:=hs.cons_inv;obtain rfl:=hs.nil_inv;obtain⟨n0,rfl,b0⟩:=h0.i64_inv;obtain⟨n1,rfl,b1⟩:=h1.i64_inv;obtain⟨n2,rfl,b2⟩:=h2.i64_inv;obtain⟨n3,rfl,b3⟩:=h3.i64_inv;obtain⟨n4,rfl,b4⟩:=h4.i64_inv;obtain⟨n5,rfl,b5⟩:=h5.i64_inv;obtain⟨n6,rfl,b6⟩:=h6.i64_inv;obtain⟨n7,rfl,b7⟩:=h7.i64_inv;obtain⟨n8,rfl,b8⟩:=h8.i64_inv;exact⟨⟨n0,n1,n2,n3,n4,n5,n6,n7,n8⟩,rfl,⟨b0,b1,b2,b3,b4,b5,b6,b7,b8⟩⟩
def akz {d:D}(h:DTy (.slice Zs) d):∃l:List Act,d=acts l/\l.length<=maxLen/\∀y,y∈l->Act.OK y:=by
 obtain⟨xs,rfl,hm,hx⟩:=h.slice_inv;obtain⟨l,rfl,hl⟩:=kC (enc:=kj) (P:=Act.OK) λx hh=>aky (hx x hh);exact⟨l,rfl,by simpa using hm,hl⟩
structure Fact where
 kind:Int
 at_:Int
 n:Int
 deriving DecidableEq,Inhabited
def uq (x:Fact):D:=.agg [.int x.kind,.int x.at_,.int x.n]
@[simp] def aBW (x:Fact):(uq x).cells=[.int x.kind,.int x.at_,.int x.n]:=zyz
@[simp] def aGT (x:Fact):D.agg [.int x.kind,.int x.at_,.int x.n]=uq x:=zyz
@[simp] def aBT (x:Fact):(uq x).c 0=.int x.kind:=zyz
@[simp] def aBU (x:Fact):(uq x).c 1=.int x.at_:=zyz
@[simp] def aBV (x:Fact):(uq x).c 2=.int x.n:=zyz
def facts (l:List Fact):D:=.list (l.map uq)
@[simp] def aFm (l:List Fact):(facts l).l=l.map uq:=zyz
@[simp] def aFl (l:List Fact):(facts l).cells=[facts l]:=zyz
abbrev Zw:Ty:=.agg [.int .i64,.int .i64,.int .i64]
def Fact.OK (x:Fact):Prop:=aZ x.kind/\aZ x.at_/\aZ x.n
def anC {d:D}(h:DTy Zw d):∃x:Fact,d=uq x/\x.OK:=by
 obtain⟨ds,rfl,hs⟩:=h.agg_inv;obtain⟨d0,ds,rfl,h0,hs⟩:=hs.cons_inv;obtain⟨d1,ds,rfl,h1,hs⟩:=hs.cons_inv;obtain⟨d2,ds,rfl,h2,hs⟩:=hs.cons_inv;obtain rfl:=hs.nil_inv;obtain⟨n0,rfl,b0⟩:=h0.i64_inv;obtain⟨n1,rfl,b1⟩:=h1.i64_inv;obtain⟨n2,rfl,b2⟩:=h2.i64_inv;exact⟨⟨n0,n1,n2⟩,rfl,⟨b0,b1,b2⟩⟩
def anD {d:D}(h:DTy (.slice Zw) d):∃l:List Fact,d=facts l/\l.length<=maxLen/\∀y,y∈l->Fact.OK y:=by
 obtain⟨xs,rfl,hm,hx⟩:=h.slice_inv;obtain⟨l,rfl,hl⟩:=kC (enc:=uq) (P:=Fact.OK) λx hh=>anC (hx x hh);exact⟨l,rfl,by simpa using hm,hl⟩
structure File where
 bill:Bill
 signs:List Sign
 alters:List Alter
 acts:List Act
 facts:List Fact
 deriving Inhabited
abbrev WP (x:File):List D:=[.int x.bill.drawer,.int x.bill.drawee,.int x.bill.payee,.int x.bill.sum,.int x.bill.currency,.int x.bill.tenor.kind,.int x.bill.tenor.n,.int x.bill.tenor.unit,.int x.bill.day,.int x.bill.city,.int x.bill.pay,.int x.bill.need,.int x.bill.rate,.int x.bill.flags,.int x.bill.parts,signs x.signs,alters x.alters,acts x.acts,facts x.facts]
def ct (x:File):D:=.agg (WP x)
@[simp] def aB5 (x:File):(ct x).cells=(WP x):=zyz
@[simp] def aGU (x:File):D.agg (WP x)=ct x:=zyz
@[simp] def aDI (x:File):kh 19 (ct x)=ct x:=zyz
@[simp] def aHl (x:File)(a0 a1 a2 a3 a4 a5 a6 a7 a8 a9 qJ qK a12 qL qM uc ud a17 uf:D):D.agg (dO [a0,a1,a2,a3,a4,a5,a6,a7,a8,a9,qJ,qK,a12,qL,qM,uc,ud,a17,uf] 0 (WP x))=ct x:=zyz
@[simp] def aB2 (x:File):(ct x).c 3=.int x.bill.sum:=zyz
@[simp] def aB3 (x:File):(ct x).c 5=.int x.bill.tenor.kind:=zyz
@[simp] def aB4 (x:File):(ct x).c 8=.int x.bill.day:=zyz
@[simp] def aBX (x:File):(ct x).c 14=.int x.bill.parts:=zyz
@[simp] def aBY (x:File):(ct x).c 15=signs x.signs:=zyz
@[simp] def aBZ (x:File):(ct x).c 16=alters x.alters:=zyz
@[simp] def aB0 (x:File):(ct x).c 17=acts x.acts:=zyz
@[simp] def aB1 (x:File):(ct x).c 18=facts x.facts:=zyz
abbrev aAh:Ty:=.agg [.int .i64,.int .i64,.int .i64,.int .i64,.int .i64,.int .i64,.int .i64,.int .i64,.int .i64,.int .i64,.int .i64,.int .i64,.int .i64,.int .i64,.int .i64,.slice ZD,.slice Zt,.slice Zs,.slice Zw]
def File.OK (x:File):Prop:=Bill.OK x.bill/\(x.signs.length<=maxLen/\∀y,y∈x.signs->Sign.OK y)/\(x.alters.length<=maxLen/\∀y,y∈x.alters->Alter.OK y)/\(x.acts.length<=maxLen/\∀y,y∈x.acts->Act.OK y)/\(x.facts.length<=maxLen/\∀y,y∈x.facts->Fact.OK y)
def anE {d:D}(h:DTy aAh d):∃x:File,d=ct x/\x.OK:=by
 obtain⟨ds,rfl,hs⟩:=h.agg_inv;obtain⟨d0,ds,rfl,h0,hs⟩:=hs.cons_inv;obtain⟨d1,ds,rfl,h1,hs⟩:=hs.cons_inv;obtain⟨d2,ds,rfl,h2,hs⟩:=hs.cons_inv;obtain⟨d3,ds,rfl,h3,hs⟩:=hs.cons_inv;obtain⟨d4,ds,rfl,h4,hs⟩:=hs.cons_inv;obtain⟨d5,ds,rfl,h5,hs⟩:=hs.cons_inv;obtain⟨d6,ds,rfl,h6,hs⟩:=hs.cons_inv;obtain⟨d7,ds,rfl,h7,hs⟩:=hs.cons_inv;obtain⟨d8,ds,rfl,h8,hs⟩:=hs.cons_inv;obtain⟨d9,ds,rfl,h9,hs⟩:=hs.cons_inv;obtain⟨d10,ds,rfl,jr,hs⟩:=hs.cons_inv;obtain⟨d11,ds,rfl,uC,hs⟩:=hs.cons_inv;obtain⟨d12,ds,rfl,Rj,hs⟩:=hs.cons_inv;obtain⟨d13,ds,rfl,h13,hs⟩:=hs.cons_inv;obtain⟨d14,ds,rfl,h14,hs⟩:=hs.cons_inv;obtain⟨d15,ds,rfl,KW,hs⟩:=hs.cons_inv;obtain⟨d16,ds,rfl,KX,hs⟩:=hs.cons_inv;obtain⟨d17,ds,rfl,KY,hs⟩:=hs.cons_inv;obtain⟨d18,ds,rfl,KZ,hs⟩:=hs.cons_inv;obtain rfl:=hs.nil_inv;obtain⟨n0,rfl,b0⟩:=h0.i64_inv;obtain⟨n1,rfl,b1⟩:=h1.i64_inv;obtain⟨n2,rfl,b2⟩:=h2.i64_inv;obtain⟨n3,rfl,b3⟩:=h3.i64_inv;obtain⟨n4,rfl,b4⟩:=h4.i64_inv;obtain⟨n5,rfl,b5⟩:=h5.i64_inv;obtain⟨n6,rfl,b6⟩:=h6.i64_inv;obtain⟨n7,rfl,b7⟩:=h7.i64_inv;obtain⟨n8,rfl,b8⟩:=h8.i64_inv;obtain⟨n9,rfl,b9⟩:=h9.i64_inv;obtain⟨n10,rfl,b10⟩:=jr.i64_inv;obtain⟨n11,rfl,b11⟩:=uC.i64_inv;obtain⟨n12,rfl,b12⟩:=Rj.i64_inv;obtain⟨n13,rfl,b13⟩:=h13.i64_inv;obtain⟨n14,rfl,b14⟩:=h14.i64_inv;obtain⟨n15,rfl,b15,c15⟩:=axg KW;obtain⟨n16,rfl,b16,c16⟩:=akH KX;obtain⟨n17,rfl,b17,c17⟩:=akz KY;obtain⟨n18,rfl,b18,c18⟩:=anD KZ;exact⟨⟨⟨n0,n1,n2,n3,n4,⟨n5,n6,n7⟩,n8,n9,n10,n11,n12,n13,n14⟩,n15,n16,n17,n18⟩,rfl,⟨⟨b0,b1,b2,b3,b4,⟨b5,b6,b7⟩,b8,b9,b10,b11,b12,b13,b14⟩,⟨b15,c15⟩,⟨b16,c16⟩,⟨b17,c17⟩,⟨b18,c18⟩⟩⟩
structure Case where
 file:File
 sign:Int
 holder:Int
 defence:Int
 due:Int
 day:Int
 deriving Inhabited
def fT (x:Case):D:=.agg [.int x.file.bill.drawer,.int x.file.bill.drawee,.int x.file.bill.payee,.int x.file.bill.sum,.int x.file.bill.currency,.int x.file.bill.tenor.kind,.int x.file.bill.tenor.n,.int x.file.bill.tenor.unit,.int x.file.bill.day,.int x.file.bill.city,.int x.file.bill.pay,.int x.file.bill.need,.int x.file.bill.rate,.int x.file.bill.flags,.int x.file.bill.parts,signs x.file.signs,alters x.file.alters,acts x.file.acts,facts x.file.facts,.int x.sign,.int x.holder,.int x.defence,.int x.due,.int x.day]
@[simp] def aBC (x:Case):(fT x).cells=[.int x.file.bill.drawer,.int x.file.bill.drawee,.int x.file.bill.payee,.int x.file.bill.sum,.int x.file.bill.currency,.int x.file.bill.tenor.kind,.int x.file.bill.tenor.n,.int x.file.bill.tenor.unit,.int x.file.bill.day,.int x.file.bill.city,.int x.file.bill.pay,.int x.file.bill.need,.int x.file.bill.rate,.int x.file.bill.flags,.int x.file.bill.parts,signs x.file.signs,alters x.file.alters,acts x.file.acts,facts x.file.facts,.int x.sign,.int x.holder,.int x.defence,.int x.due,.int x.day]:=zyz
@[simp] def aGO (x:Case):D.agg [.int x.file.bill.drawer,.int x.file.bill.drawee,.int x.file.bill.payee,.int x.file.bill.sum,.int x.file.bill.currency,.int x.file.bill.tenor.kind,.int x.file.bill.tenor.n,.int x.file.bill.tenor.unit,.int x.file.bill.day,.int x.file.bill.city,.int x.file.bill.pay,.int x.file.bill.need,.int x.file.bill.rate,.int x.file.bill.flags,.int x.file.bill.parts,signs x.file.signs,alters x.file.alters,acts x.file.acts,facts x.file.facts,.int x.sign,.int x.holder,.int x.defence,.int x.due,.int x.day]=fT x:=zyz
@[simp] def akF (x:Case):kh 24 (fT x)=fT x:=zyz
@[simp] def au5 (x:Case)(a0 a1 a2 a3 a4 a5 a6 a7 a8 a9 qJ qK a12 qL qM uc ud a17 uf Ph a20 a21 a22 a23:D):D.agg (dO [a0,a1,a2,a3,a4,a5,a6,a7,a8,a9,qJ,qK,a12,qL,qM,uc,ud,a17,uf,Ph,a20,a21,a22,a23] 0 [.int x.file.bill.drawer,.int x.file.bill.drawee,.int x.file.bill.payee,.int x.file.bill.sum,.int x.file.bill.currency,.int x.file.bill.tenor.kind,.int x.file.bill.tenor.n,.int x.file.bill.tenor.unit,.int x.file.bill.day,.int x.file.bill.city,.int x.file.bill.pay,.int x.file.bill.need,.int x.file.bill.rate,.int x.file.bill.flags,.int x.file.bill.parts,signs x.file.signs,alters x.file.alters,acts x.file.acts,facts x.file.facts,.int x.sign,.int x.holder,.int x.defence,.int x.due,.int x.day])=fT x:=zyz
@[simp] def aBB (x:Case):(fT x).c 9=.int x.file.bill.city:=zyz
@[simp] def aBu (x:Case):(fT x).c 10=.int x.file.bill.pay:=zyz
@[simp] def aBv (x:Case):(fT x).c 15=signs x.file.signs:=zyz
@[simp] def aBw (x:Case):(fT x).c 19=.int x.sign:=zyz
@[simp] def aBx (x:Case):(fT x).c 20=.int x.holder:=zyz
@[simp] def aBy (x:Case):(fT x).c 21=.int x.defence:=zyz
@[simp] def aBz (x:Case):(fT x).c 22=.int x.due:=zyz
@[simp] def aBA (x:Case):(fT x).c 23=.int x.day:=zyz
def cases(l:List Case):D:=.list (l.map fT)
structure Cell where
 known:Bool
 n:Int
 deriving DecidableEq,Inhabited
def cY (x:Cell):D:=.agg [.bool x.known,.int x.n]
@[simp] def aBF (x:Cell):(cY x).cells=[.bool x.known,.int x.n]:=zyz
@[simp] def aGP (x:Cell):D.agg [.bool x.known,.int x.n]=cY x:=zyz
@[simp] def aBD (x:Cell):(cY x).c 0=.bool x.known:=zyz
@[simp] def aBE (x:Cell):(cY x).c 1=.int x.n:=zyz
def cells (l:List Cell):D:=.list (l.map cY)
@[simp] def aD6 (l:List Cell):(cells l).l=l.map cY:=zyz
@[simp] def aD5 (l:List Cell):(cells l).cells=[cells l]:=zyz
structure Said where
 cell:Cell
 order:Int
 path:List Int
 err:Int
 deriving Inhabited
def rh (x:Said):D:=.agg [.bool x.cell.known,.int x.cell.n,.int x.order,ints x.path,.int x.err]
@[simp] def aCI (x:Said):(rh x).cells=[.bool x.cell.known,.int x.cell.n,.int x.order,ints x.path,.int x.err]:=zyz
@[simp] def aG4 (x:Said):D.agg [.bool x.cell.known,.int x.cell.n,.int x.order,ints x.path,.int x.err]=rh x:=zyz
@[simp] def aDL (x:Said):kh 5 (rh x)=rh x:=zyz
structure Effect where
 sign:Int
 kind:Int
 firm:Int
 binds:Int
 text:Int
 sum:Int
 recourse:Bool
 deriving DecidableEq,Inhabited
def jL (x:Effect):D:=.agg [.int x.sign,.int x.kind,.int x.firm,.int x.binds,.int x.text,.int x.sum,.bool x.recourse]
@[simp] def aBS (x:Effect):(jL x).cells=[.int x.sign,.int x.kind,.int x.firm,.int x.binds,.int x.text,.int x.sum,.bool x.recourse]:=zyz
@[simp] def aGS (x:Effect):D.agg [.int x.sign,.int x.kind,.int x.firm,.int x.binds,.int x.text,.int x.sum,.bool x.recourse]=jL x:=zyz
@[simp] def aBQ (x:Effect):(jL x).c 2=.int x.firm:=zyz
@[simp] def aBR (x:Effect):(jL x).c 5=.int x.sum:=zyz
def oa (l:List Effect):D:=.list (l.map jL)
@[simp] def aEA (l:List Effect):(oa l).l=l.map jL:=zyz
@[simp] def aH5 (a0 x0:D):dO [a0] 0 [x0]=[x0]:=zyz
@[simp] def aH6 (a0 a1 x0 x1:D):dO [a0,a1] 0 [x0,x1]=[x0,x1]:=zyz
@[simp] def aH7 (a0 a1 a2 x0 x1 x2:D):dO [a0,a1,a2] 0 [x0,x1,x2]=[x0,x1,x2]:=zyz
@[simp] def aH8 (a0 a1 a2 a3 x0 x1 x2 x3:D):dO [a0,a1,a2,a3] 0 [x0,x1,x2,x3]=[x0,x1,x2,x3]:=zyz
@[simp] def aH9 (a0 a1 a2 a3 a4 x0 x1 x2 x3 x4:D):dO [a0,a1,a2,a3,a4] 0 [x0,x1,x2,x3,x4]=[x0,x1,x2,x3,x4]:=zyz
@[simp] def aIa (a0 a1 a2 a3 a4 a5 x0 x1 x2 x3 x4 x5:D):dO [a0,a1,a2,a3,a4,a5] 0 [x0,x1,x2,x3,x4,x5]=[x0,x1,x2,x3,x4,x5]:=zyz
@[simp] def aIb (a0 a1 a2 a3 a4 a5 a6 x0 x1 x2 x3 x4 x5 x6:D):dO [a0,a1,a2,a3,a4,a5,a6] 0 [x0,x1,x2,x3,x4,x5,x6]=[x0,x1,x2,x3,x4,x5,x6]:=zyz
@[simp] def aIc (a0 a1 a2 a3 a4 a5 a6 a7 a8 x0 x1 x2 x3 x4 x5 x6 x7 x8:D):dO [a0,a1,a2,a3,a4,a5,a6,a7,a8] 0 [x0,x1,x2,x3,x4,x5,x6,x7,x8]=[x0,x1,x2,x3,x4,x5,x6,x7,x8]:=zyz
end Rm
