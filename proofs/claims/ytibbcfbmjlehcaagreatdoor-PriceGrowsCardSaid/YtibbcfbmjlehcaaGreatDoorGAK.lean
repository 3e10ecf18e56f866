/-
  What comes in as Lean's own data: realms, files, cases.
-/
import Derived.Test.YtibbcfbmjlehcaaGreatDoorGAI
set_option linter.defProp false
set_option linter.unusedSimpArgs false
set_option linter.unusedVariables false
namespace Rm
open Go Cx
abbrev str (b:ByteArray):D:=.v (.string b)
def strs (l:List ByteArray):D:=.list (l.map str)
@[simp] def ays (l:List ByteArray):(strs l).l=l.map str:=zyz
def str_inv {d:D}(h:DTy .str d):∃b,d=str b:=by
 cases h with
 |str b=>exact⟨b,rfl⟩
 |other t d h=>exact h.elim
def ayr {d:D}(h:DTy (.slice .str) d):∃l:List ByteArray,d=strs l/\l.length<=maxLen:=by
 obtain⟨xs,rfl,hm,hx⟩:=h.slice_inv;obtain⟨l,rfl,hl⟩:=kL (enc:=str) (P:=λ_=>True) λx hh=>(str_inv (hx x hh)).imp λb hb=>⟨hb,trivial⟩
 exact⟨l,rfl,by simpa using hm⟩
@[simp] def aD4 (t:Tm):(dP t).cells=[.int t.op,.int t.n,.list (t.args.map dP)]:=by rw[Fs];rfl
@[simp] def aD5 (t:Tm):D.agg [.int t.op,.int t.n,.list (t.args.map dP)]=dP t:=(Fs t).symm
@[simp] def aD1 (t:Tm):(dP t).c 0=.int t.op:=by rw[Fs];rfl
@[simp] def aD2 (t:Tm):(dP t).c 1=.int t.n:=by rw[Fs];rfl
@[simp] def aD3 (t:Tm):(dP t).c 2=.list (t.args.map dP):=by rw[Fs];rfl
structure City where
 name:ByteArray
 order:Int
 currency:Int
 rest:List Int
 feasts:List Int
 shut:List Int
 deriving Inhabited
def gX (x:City):D:=.agg [str x.name,.int x.order,.int x.currency,ints x.rest,ints x.feasts,ints x.shut]
@[simp] def aCU (x:City):(gX x).cells=[str x.name,.int x.order,.int x.currency,ints x.rest,ints x.feasts,ints x.shut]:=zyz
@[simp] def aHW (x:City):D.agg [str x.name,.int x.order,.int x.currency,ints x.rest,ints x.feasts,ints x.shut]=gX x:=zyz
@[simp] def aEM (x:City):kA 6 (gX x)=gX x:=zyz
@[simp] def aCO (x:City):(gX x).c 0=str x.name:=zyz
@[simp] def aCP (x:City):(gX x).c 1=.int x.order:=zyz
@[simp] def aCQ (x:City):(gX x).c 2=.int x.currency:=zyz
@[simp] def aCR (x:City):(gX x).c 3=ints x.rest:=zyz
@[simp] def aCS (x:City):(gX x).c 4=ints x.feasts:=zyz
@[simp] def aCT (x:City):(gX x).c 5=ints x.shut:=zyz
def p8 (l:List City):D:=.list (l.map gX)
@[simp] def aFd (l:List City):(p8 l).l=l.map gX:=zyz
abbrev Z3:Ty:=.agg [.str,.int .i64,.int .i64,.slice (.int .i64),.slice (.int .i64),.slice (.int .i64)]
def City.OK (x:City):Prop:=bh x.order/\bh x.currency/\(x.rest.length<=maxLen/\∀y,y∈x.rest->bh y)/\(x.feasts.length<=maxLen/\∀y,y∈x.feasts->bh y)/\(x.shut.length<=maxLen/\∀y,y∈x.shut->bh y)
def amx {d:D}(h:DTy Z3 d):∃x:City,d=gX x/\x.OK:=by
 obtain⟨ds,rfl,hs⟩:=h.agg_inv;obtain⟨d0,ds,rfl,h0,hs⟩:=hs.cons_inv;obtain⟨d1,ds,rfl,h1,hs⟩:=hs.cons_inv;obtain⟨d2,ds,rfl,h2,hs⟩:=hs.cons_inv;obtain⟨d3,ds,rfl,h3,hs⟩:=hs.cons_inv;obtain⟨d4,ds,rfl,h4,hs⟩:=hs.cons_inv;obtain⟨d5,ds,rfl,h5,hs⟩:=hs.cons_inv;obtain rfl:=hs.nil_inv;obtain⟨n0,rfl⟩:=str_inv h0;obtain⟨n1,rfl,b1⟩:=h1.i64_inv;obtain⟨n2,rfl,b2⟩:=h2.i64_inv;obtain⟨n3,rfl,b3,c3⟩:=h3.ints_inv;obtain⟨n4,rfl,b4,c4⟩:=h4.ints_inv;obtain⟨n5,rfl,b5,c5⟩:=h5.ints_inv;exact⟨⟨n0,n1,n2,n3,n4,n5⟩,rfl,⟨b1,b2,⟨b3,c3⟩,⟨b4,c4⟩,⟨b5,c5⟩⟩⟩
def amy {d:D}(h:DTy (.slice Z3) d):∃l:List City,d=p8 l/\l.length<=maxLen/\∀y,y∈l->City.OK y:=by
 obtain⟨xs,rfl,hm,hx⟩:=h.slice_inv;obtain⟨l,rfl,hl⟩:=kL (enc:=gX) (P:=City.OK) λx hh=>amx (hx x hh);exact⟨l,rfl,by simpa using hm,hl⟩
structure Firm where
 name:ByteArray
 city:Int
 group:Int
 deriving Inhabited
def uQ (x:Firm):D:=.agg [str x.name,.int x.city,.int x.group]
@[simp] def aDe (x:Firm):(uQ x).cells=[str x.name,.int x.city,.int x.group]:=zyz
@[simp] def aH0 (x:Firm):D.agg [str x.name,.int x.city,.int x.group]=uQ x:=zyz
@[simp] def aDb (x:Firm):(uQ x).c 0=str x.name:=zyz
@[simp] def aDc (x:Firm):(uQ x).c 1=.int x.city:=zyz
@[simp] def aDd (x:Firm):(uQ x).c 2=.int x.group:=zyz
def firms (l:List Firm):D:=.list (l.map uQ)
@[simp] def aGs (l:List Firm):(firms l).l=l.map uQ:=zyz
abbrev Z5:Ty:=.agg [.str,.int .i64,.int .i64]
def Firm.OK (x:Firm):Prop:=bh x.city/\bh x.group
def aow {d:D}(h:DTy Z5 d):∃x:Firm,d=uQ x/\x.OK:=by
 obtain⟨ds,rfl,hs⟩:=h.agg_inv;obtain⟨d0,ds,rfl,h0,hs⟩:=hs.cons_inv;obtain⟨d1,ds,rfl,h1,hs⟩:=hs.cons_inv;obtain⟨d2,ds,rfl,h2,hs⟩:=hs.cons_inv;obtain rfl:=hs.nil_inv;obtain⟨n0,rfl⟩:=str_inv h0;obtain⟨n1,rfl,b1⟩:=h1.i64_inv;obtain⟨n2,rfl,b2⟩:=h2.i64_inv;exact⟨⟨n0,n1,n2⟩,rfl,⟨b1,b2⟩⟩
def aox {d:D}(h:DTy (.slice Z5) d):∃l:List Firm,d=firms l/\l.length<=maxLen/\∀y,y∈l->Firm.OK y:=by
 obtain⟨xs,rfl,hm,hx⟩:=h.slice_inv;obtain⟨l,rfl,hl⟩:=kL (enc:=uQ) (P:=Firm.OK) λx hh=>aow (hx x hh);exact⟨l,rfl,by simpa using hm,hl⟩
structure Group where
 grade:Int
 deriving DecidableEq,Inhabited
def tB (x:Group):D:=.agg [.int x.grade]
@[simp] def aDg (x:Group):(tB x).cells=[.int x.grade]:=zyz
@[simp] def aH1 (x:Group):D.agg [.int x.grade]=tB x:=zyz
@[simp] def aDf (x:Group):(tB x).c 0=.int x.grade:=zyz
def groups (l:List Group):D:=.list (l.map tB)
@[simp] def aGC (l:List Group):(groups l).l=l.map tB:=zyz
abbrev Z6:Ty:=.agg [.int .i64]
def Group.OK (x:Group):Prop:=bh x.grade
def apW {d:D}(h:DTy Z6 d):∃x:Group,d=tB x/\x.OK:=by
 obtain⟨ds,rfl,hs⟩:=h.agg_inv;obtain⟨d0,ds,rfl,h0,hs⟩:=hs.cons_inv;obtain rfl:=hs.nil_inv;obtain⟨n0,rfl,b0⟩:=h0.i64_inv;exact⟨⟨n0⟩,rfl,b0⟩
def apZ {d:D}(h:DTy (.slice Z6) d):∃l:List Group,d=groups l/\l.length<=maxLen/\∀y,y∈l->Group.OK y:=by
 obtain⟨xs,rfl,hm,hx⟩:=h.slice_inv;obtain⟨l,rfl,hl⟩:=kL (enc:=tB) (P:=Group.OK) λx hh=>apW (hx x hh);exact⟨l,rfl,by simpa using hm,hl⟩
structure Usance where
 fr:Int
 to:Int
 days:Int
 deriving DecidableEq,Inhabited
def uT (x:Usance):D:=.agg [.int x.fr,.int x.to,.int x.days]
@[simp] def aEe (x:Usance):(uT x).cells=[.int x.fr,.int x.to,.int x.days]:=zyz
@[simp] def aId (x:Usance):D.agg [.int x.fr,.int x.to,.int x.days]=uT x:=zyz
@[simp] def aEb (x:Usance):(uT x).c 0=.int x.fr:=zyz
@[simp] def aEc (x:Usance):(uT x).c 1=.int x.to:=zyz
@[simp] def aEd (x:Usance):(uT x).c 2=.int x.days:=zyz
def usances (l:List Usance):D:=.list (l.map uT)
@[simp] def aJm (l:List Usance):(usances l).l=l.map uT:=zyz
abbrev aac:Ty:=.agg [.int .i64,.int .i64,.int .i64]
def Usance.OK (x:Usance):Prop:=bh x.fr/\bh x.to/\bh x.days
def aBr {d:D}(h:DTy aac d):∃x:Usance,d=uT x/\x.OK:=by
 obtain⟨ds,rfl,hs⟩:=h.agg_inv;obtain⟨d0,ds,rfl,h0,hs⟩:=hs.cons_inv;obtain⟨d1,ds,rfl,h1,hs⟩:=hs.cons_inv;obtain⟨d2,ds,rfl,h2,hs⟩:=hs.cons_inv;obtain rfl:=hs.nil_inv;obtain⟨n0,rfl,b0⟩:=h0.i64_inv;obtain⟨n1,rfl,b1⟩:=h1.i64_inv;obtain⟨n2,rfl,b2⟩:=h2.i64_inv;exact⟨⟨n0,n1,n2⟩,rfl,⟨b0,b1,b2⟩⟩
def aBs {d:D}(h:DTy (.slice aac) d):∃l:List Usance,d=usances l/\l.length<=maxLen/\∀y,y∈l->Usance.OK y:=by
 obtain⟨xs,rfl,hm,hx⟩:=h.slice_inv;obtain⟨l,rfl,hl⟩:=kL (enc:=uT) (P:=Usance.OK) λx hh=>aBr (hx x hh);exact⟨l,rfl,by simpa using hm,hl⟩
structure Rate where
 fr:Int
 to:Int
 num:Int
 den:Int
 since:Int
 deriving DecidableEq,Inhabited
def rL (x:Rate):D:=.agg [.int x.fr,.int x.to,.int x.num,.int x.den,.int x.since]
@[simp] def aDy (x:Rate):(rL x).cells=[.int x.fr,.int x.to,.int x.num,.int x.den,.int x.since]:=zyz
@[simp] def aH5 (x:Rate):D.agg [.int x.fr,.int x.to,.int x.num,.int x.den,.int x.since]=rL x:=zyz
@[simp] def aDt (x:Rate):(rL x).c 0=.int x.fr:=zyz
@[simp] def aDu (x:Rate):(rL x).c 1=.int x.to:=zyz
@[simp] def aDv (x:Rate):(rL x).c 2=.int x.num:=zyz
@[simp] def aDw (x:Rate):(rL x).c 3=.int x.den:=zyz
@[simp] def aDx (x:Rate):(rL x).c 4=.int x.since:=zyz
def rates (l:List Rate):D:=.list (l.map rL)
@[simp] def aIE (l:List Rate):(rates l).l=l.map rL:=zyz
abbrev Z9:Ty:=.agg [.int .i64,.int .i64,.int .i64,.int .i64,.int .i64]
def Rate.OK (x:Rate):Prop:=bh x.fr/\bh x.to/\bh x.num/\bh x.den/\bh x.since
def axd {d:D}(h:DTy Z9 d):∃x:Rate,d=rL x/\x.OK:=by
 obtain⟨ds,rfl,hs⟩:=h.agg_inv;obtain⟨d0,ds,rfl,h0,hs⟩:=hs.cons_inv;obtain⟨d1,ds,rfl,h1,hs⟩:=hs.cons_inv;obtain⟨d2,ds,rfl,h2,hs⟩:=hs.cons_inv;obtain⟨d3,ds,rfl,h3,hs⟩:=hs.cons_inv;obtain⟨d4,ds,rfl,h4,hs⟩:=hs.cons_inv;obtain rfl:=hs.nil_inv;obtain⟨n0,rfl,b0⟩:=h0.i64_inv;obtain⟨n1,rfl,b1⟩:=h1.i64_inv;obtain⟨n2,rfl,b2⟩:=h2.i64_inv;obtain⟨n3,rfl,b3⟩:=h3.i64_inv;obtain⟨n4,rfl,b4⟩:=h4.i64_inv;exact⟨⟨n0,n1,n2,n3,n4⟩,rfl,⟨b0,b1,b2,b3,b4⟩⟩
def axe {d:D}(h:DTy (.slice Z9) d):∃l:List Rate,d=rates l/\l.length<=maxLen/\∀y,y∈l->Rate.OK y:=by
 obtain⟨xs,rfl,hm,hx⟩:=h.slice_inv;obtain⟨l,rfl,hl⟩:=kL (enc:=rL) (P:=Rate.OK) λx hh=>axd (hx x hh);exact⟨l,rfl,by simpa using hm,hl⟩
structure Halt where
 order:Int
 fr:Int
 to:Int
 deriving DecidableEq,Inhabited
def uR (x:Halt):D:=.agg [.int x.order,.int x.fr,.int x.to]
@[simp] def aDk (x:Halt):(uR x).cells=[.int x.order,.int x.fr,.int x.to]:=zyz
@[simp] def aH2 (x:Halt):D.agg [.int x.order,.int x.fr,.int x.to]=uR x:=zyz
@[simp] def aDh (x:Halt):(uR x).c 0=.int x.order:=zyz
@[simp] def aDi (x:Halt):(uR x).c 1=.int x.fr:=zyz
@[simp] def aDj (x:Halt):(uR x).c 2=.int x.to:=zyz
def halts (l:List Halt):D:=.list (l.map uR)
@[simp] def aGO (l:List Halt):(halts l).l=l.map uR:=zyz
abbrev Z7:Ty:=.agg [.int .i64,.int .i64,.int .i64]
def Halt.OK (x:Halt):Prop:=bh x.order/\bh x.fr/\bh x.to
def aqq {d:D}(h:DTy Z7 d):∃x:Halt,d=uR x/\x.OK:=by
 obtain⟨ds,rfl,hs⟩:=h.agg_inv;obtain⟨d0,ds,rfl,h0,hs⟩:=hs.cons_inv;obtain⟨d1,ds,rfl,h1,hs⟩:=hs.cons_inv;obtain⟨d2,ds,rfl,h2,hs⟩:=hs.cons_inv;obtain rfl:=hs.nil_inv;obtain⟨n0,rfl,b0⟩:=h0.i64_inv;obtain⟨n1,rfl,b1⟩:=h1.i64_inv;obtain⟨n2,rfl,b2⟩:=h2.i64_inv;exact⟨⟨n0,n1,n2⟩,rfl,⟨b0,b1,b2⟩⟩
def aqr {d:D}(h:DTy (.slice Z7) d):∃l:List Halt,d=halts l/\l.length<=maxLen/\∀y,y∈l->Halt.OK y:=by
 obtain⟨xs,rfl,hm,hx⟩:=h.slice_inv;obtain⟨l,rfl,hl⟩:=kL (enc:=uR) (P:=Halt.OK) λx hh=>aqq (hx x hh);exact⟨l,rfl,by simpa using hm,hl⟩
structure Choice where
 ask:Int
 by_:Int
 whole:Bool
 deriving DecidableEq,Inhabited
def wg (x:Choice):D:=.agg [.int x.ask,.int x.by_,.bool x.whole]
@[simp] def aCN (x:Choice):(wg x).cells=[.int x.ask,.int x.by_,.bool x.whole]:=zyz
@[simp] def aHV (x:Choice):D.agg [.int x.ask,.int x.by_,.bool x.whole]=wg x:=zyz
@[simp] def aCL (x:Choice):(wg x).c 0=.int x.ask:=zyz
@[simp] def aCM (x:Choice):(wg x).c 1=.int x.by_:=zyz
def choices (l:List Choice):D:=.list (l.map wg)
@[simp] def aFc (l:List Choice):(choices l).l=l.map wg:=zyz
abbrev Z2:Ty:=.agg [.int .i64,.int .i64,.bool]
def Choice.OK (x:Choice):Prop:=bh x.ask/\bh x.by_
def amu {d:D}(h:DTy Z2 d):∃x:Choice,d=wg x/\x.OK:=by
 obtain⟨ds,rfl,hs⟩:=h.agg_inv;obtain⟨d0,ds,rfl,h0,hs⟩:=hs.cons_inv;obtain⟨d1,ds,rfl,h1,hs⟩:=hs.cons_inv;obtain⟨d2,ds,rfl,h2,hs⟩:=hs.cons_inv;obtain rfl:=hs.nil_inv;obtain⟨n0,rfl,b0⟩:=h0.i64_inv;obtain⟨n1,rfl,b1⟩:=h1.i64_inv;obtain⟨n2,rfl⟩:=h2.bool_inv;exact⟨⟨n0,n1,n2⟩,rfl,⟨b0,b1⟩⟩
def amv {d:D}(h:DTy (.slice Z2) d):∃l:List Choice,d=choices l/\l.length<=maxLen/\∀y,y∈l->Choice.OK y:=by
 obtain⟨xs,rfl,hm,hx⟩:=h.slice_inv;obtain⟨l,rfl,hl⟩:=kL (enc:=wg) (P:=Choice.OK) λx hh=>amu (hx x hh);exact⟨l,rfl,by simpa using hm,hl⟩
structure Rule where
 ask:Int
 term:Tm
 deriving Inhabited
def uS (x:Rule):D:=.agg [.int x.ask,.int x.term.op,.int x.term.n,.list (x.term.args.map dP)]
@[simp] def aDM (x:Rule):(uS x).cells=[.int x.ask,.int x.term.op,.int x.term.n,.list (x.term.args.map dP)]:=zyz
@[simp] def aH8 (x:Rule):D.agg [.int x.ask,.int x.term.op,.int x.term.n,.list (x.term.args.map dP)]=uS x:=zyz
@[simp] def aDL (x:Rule):(uS x).c 0=.int x.ask:=zyz
def rules (l:List Rule):D:=.list (l.map uS)
@[simp] def aIL (l:List Rule):(rules l).l=l.map uS:=zyz
abbrev aaa:Ty:=.agg [.int .i64,.int .i64,.int .i64,.slice .trm]
def Rule.OK (x:Rule):Prop:=bh x.ask/\Tm.OK x.term
def axN {d:D}(h:DTy aaa d):∃x:Rule,d=uS x/\x.OK:=by
 obtain⟨ds,rfl,hs⟩:=h.agg_inv;obtain⟨d0,ds,rfl,h0,hs⟩:=hs.cons_inv;obtain⟨d1,ds,rfl,h1,hs⟩:=hs.cons_inv;obtain⟨d2,ds,rfl,h2,hs⟩:=hs.cons_inv;obtain⟨d3,ds,rfl,h3,hs⟩:=hs.cons_inv;obtain rfl:=hs.nil_inv;obtain⟨n0,rfl,b0⟩:=h0.i64_inv;obtain⟨n1,rfl,b1⟩:=h1.i64_inv;obtain⟨n2,rfl,b2⟩:=h2.i64_inv;obtain⟨n3,rfl,b3,c3⟩:=h3.trms_inv;exact⟨⟨n0,.mk n1 n2 n3⟩,rfl,⟨b0,.mk _ _ _ b1 b2 b3 c3⟩⟩
def axO {d:D}(h:DTy (.slice aaa) d):∃l:List Rule,d=rules l/\l.length<=maxLen/\∀y,y∈l->Rule.OK y:=by
 obtain⟨xs,rfl,hm,hx⟩:=h.slice_inv;obtain⟨l,rfl,hl⟩:=kL (enc:=uS) (P:=Rule.OK) λx hh=>axN (hx x hh);exact⟨l,rfl,by simpa using hm,hl⟩
structure Order where
 name:ByteArray
 accepts:Bool
 choices:List Choice
 rules:List Rule
 deriving Inhabited
def kD (x:Order):D:=.agg [str x.name,.bool x.accepts,choices x.choices,rules x.rules]
@[simp] def aDp (x:Order):(kD x).cells=[str x.name,.bool x.accepts,choices x.choices,rules x.rules]:=zyz
@[simp] def aH3 (x:Order):D.agg [str x.name,.bool x.accepts,choices x.choices,rules x.rules]=kD x:=zyz
@[simp] def aEO (x:Order):kA 4 (kD x)=kD x:=zyz
@[simp] def aDl (x:Order):(kD x).c 0=str x.name:=zyz
@[simp] def aDm (x:Order):(kD x).c 1=.bool x.accepts:=zyz
@[simp] def aDn (x:Order):(kD x).c 2=choices x.choices:=zyz
@[simp] def aDo (x:Order):(kD x).c 3=rules x.rules:=zyz
def orders (l:List Order):D:=.list (l.map kD)
@[simp] def aIo (l:List Order):(orders l).l=l.map kD:=zyz
abbrev Z8:Ty:=.agg [.str,.bool,.slice Z2,.slice aaa]
def Order.OK (x:Order):Prop:=(x.choices.length<=maxLen/\∀y,y∈x.choices->Choice.OK y)/\(x.rules.length<=maxLen/\∀y,y∈x.rules->Rule.OK y)
def avW {d:D}(h:DTy Z8 d):∃x:Order,d=kD x/\x.OK:=by
 obtain⟨ds,rfl,hs⟩:=h.agg_inv;obtain⟨d0,ds,rfl,h0,hs⟩:=hs.cons_inv;obtain⟨d1,ds,rfl,h1,hs⟩:=hs.cons_inv;obtain⟨d2,ds,rfl,h2,hs⟩:=hs.cons_inv;obtain⟨d3,ds,rfl,h3,hs⟩:=hs.cons_inv;obtain rfl:=hs.nil_inv;obtain⟨n0,rfl⟩:=str_inv h0;obtain⟨n1,rfl⟩:=h1.bool_inv;obtain⟨n2,rfl,b2,c2⟩:=amv h2;obtain⟨n3,rfl,b3,c3⟩:=axO h3;exact⟨⟨n0,n1,n2,n3⟩,rfl,⟨⟨b2,c2⟩,⟨b3,c3⟩⟩⟩
def avX {d:D}(h:DTy (.slice Z8) d):∃l:List Order,d=orders l/\l.length<=maxLen/\∀y,y∈l->Order.OK y:=by
 obtain⟨xs,rfl,hm,hx⟩:=h.slice_inv;obtain⟨l,rfl,hl⟩:=kL (enc:=kD) (P:=Order.OK) λx hh=>avW (hx x hh);exact⟨l,rfl,by simpa using hm,hl⟩
structure Realm where
 currencies:List ByteArray
 cities:List City
 groups:List Group
 firms:List Firm
 orders:List Order
 usances:List Usance
 rates:List Rate
 halts:List Halt
 deriving Inhabited
abbrev zzy (x:Realm):List D:=[strs x.currencies,p8 x.cities,groups x.groups,firms x.firms,orders x.orders,usances x.usances,rates x.rates,halts x.halts]
def aQ (x:Realm):D:=.agg (zzy x)
@[simp] def aDK (x:Realm):(aQ x).cells=(zzy x):=zyz
@[simp] def aH7 (x:Realm):D.agg (zzy x)=aQ x:=zyz
@[simp] def aEP (x:Realm):kA 8 (aQ x)=aQ x:=zyz
@[simp] def aIs (x:Realm)(a0 a1 a2 a3 a4 a5 a6 a7:D):D.agg (dF [a0,a1,a2,a3,a4,a5,a6,a7] 0 (zzy x))=aQ x:=zyz
@[simp] def aDC (x:Realm):(aQ x).c 0=strs x.currencies:=zyz
@[simp] def aDD (x:Realm):(aQ x).c 1=p8 x.cities:=zyz
@[simp] def aDE (x:Realm):(aQ x).c 2=groups x.groups:=zyz
@[simp] def aDF (x:Realm):(aQ x).c 3=firms x.firms:=zyz
@[simp] def aDG (x:Realm):(aQ x).c 4=orders x.orders:=zyz
@[simp] def aDH (x:Realm):(aQ x).c 5=usances x.usances:=zyz
@[simp] def aDI (x:Realm):(aQ x).c 6=rates x.rates:=zyz
@[simp] def aDJ (x:Realm):(aQ x).c 7=halts x.halts:=zyz
abbrev aBl:Ty:=.agg [.slice .str,.slice Z3,.slice Z6,.slice Z5,.slice Z8,.slice aac,.slice Z9,.slice Z7]
def Realm.OK (x:Realm):Prop:=x.currencies.length<=maxLen/\(x.cities.length<=maxLen/\∀y,y∈x.cities->City.OK y)/\(x.groups.length<=maxLen/\∀y,y∈x.groups->Group.OK y)/\(x.firms.length<=maxLen/\∀y,y∈x.firms->Firm.OK y)/\(x.orders.length<=maxLen/\∀y,y∈x.orders->Order.OK y)/\(x.usances.length<=maxLen/\∀y,y∈x.usances->Usance.OK y)/\(x.rates.length<=maxLen/\∀y,y∈x.rates->Rate.OK y)/\(x.halts.length<=maxLen/\∀y,y∈x.halts->Halt.OK y)
def axp {d:D}(h:DTy aBl d):∃x:Realm,d=aQ x/\x.OK:=by
 obtain⟨ds,rfl,hs⟩:=h.agg_inv;obtain⟨d0,ds,rfl,h0,hs⟩:=hs.cons_inv;obtain⟨d1,ds,rfl,h1,hs⟩:=hs.cons_inv;obtain⟨d2,ds,rfl,h2,hs⟩:=hs.cons_inv;obtain⟨d3,ds,rfl,h3,hs⟩:=hs.cons_inv;obtain⟨d4,ds,rfl,h4,hs⟩:=hs.cons_inv;obtain⟨d5,ds,rfl,h5,hs⟩:=hs.cons_inv;obtain⟨d6,ds,rfl,h6,hs⟩:=hs.cons_inv;obtain⟨d7,ds,rfl,h7,hs⟩:=hs.cons_inv;obtain rfl:=hs.nil_inv;obtain⟨n0,rfl,b0⟩:=ayr h0;obtain⟨n1,rfl,b1,c1⟩:=amy h1;obtain⟨n2,rfl,b2,c2⟩:=apZ h2;obtain⟨n3,rfl,b3,c3⟩:=aox h3;obtain⟨n4,rfl,b4,c4⟩:=avX h4;obtain⟨n5,rfl,b5,c5⟩:=aBs h5;obtain⟨n6,rfl,b6,c6⟩:=axe h6;obtain⟨n7,rfl,b7,c7⟩:=aqr h7;exact⟨⟨n0,n1,n2,n3,n4,n5,n6,n7⟩,rfl,⟨b0,⟨b1,c1⟩,⟨b2,c2⟩,⟨b3,c3⟩,⟨b4,c4⟩,⟨b5,c5⟩,⟨b6,c6⟩,⟨b7,c7⟩⟩⟩
structure Tenor where
 kind:Int
 n:Int
 unit:Int
 deriving DecidableEq,Inhabited
def qa (x:Tenor):D:=.agg [.int x.kind,.int x.n,.int x.unit]
@[simp] def aD9 (x:Tenor):(qa x).cells=[.int x.kind,.int x.n,.int x.unit]:=zyz
@[simp] def aIc (x:Tenor):D.agg [.int x.kind,.int x.n,.int x.unit]=qa x:=zyz
@[simp] def aD6 (x:Tenor):(qa x).c 0=.int x.kind:=zyz
@[simp] def aD7 (x:Tenor):(qa x).c 1=.int x.n:=zyz
@[simp] def aD8 (x:Tenor):(qa x).c 2=.int x.unit:=zyz
def Tenor.OK (x:Tenor):Prop:=bh x.kind/\bh x.n/\bh x.unit
structure Bill where
 drawer:Int
 drawee:Int
 payee:Int
 sum:Int
 currency:Int
 tenor:Tenor
 day:Int
 city:Int
 pay:Int
 need:Int
 rate:Int
 flags:Int
 parts:Int
 deriving DecidableEq,Inhabited
abbrev zzz (x:Bill):List D:=[.int x.drawer,.int x.drawee,.int x.payee,.int x.sum,.int x.currency,.int x.tenor.kind,.int x.tenor.n,.int x.tenor.unit,.int x.day,.int x.city,.int x.pay,.int x.need,.int x.rate,.int x.flags,.int x.parts]
def dI (x:Bill):D:=.agg (zzz x)
@[simp] def aCy (x:Bill):(dI x).cells=(zzz x):=zyz
@[simp] def aHS (x:Bill):D.agg (zzz x)=dI x:=zyz
@[simp] def aEL (x:Bill):kA 15 (dI x)=dI x:=zyz
@[simp] def aIp (x:Bill)(a0 a1 a2 a3 a4 a5 a6 a7 a8 a9 mY mZ a12 na nf:D):D.agg (dF [a0,a1,a2,a3,a4,a5,a6,a7,a8,a9,mY,mZ,a12,na,nf] 0 (zzz x))=dI x:=zyz
@[simp] def aCj (x:Bill):(dI x).c 0=.int x.drawer:=zyz
@[simp] def aCk (x:Bill):(dI x).c 1=.int x.drawee:=zyz
@[simp] def aCq (x:Bill):(dI x).c 2=.int x.payee:=zyz
@[simp] def aCr (x:Bill):(dI x).c 3=.int x.sum:=zyz
@[simp] def aCs (x:Bill):(dI x).c 4=.int x.currency:=zyz
@[simp] def aCt (x:Bill):(dI x).c 5=.int x.tenor.kind:=zyz
@[simp] def aCu (x:Bill):(dI x).c 6=.int x.tenor.n:=zyz
@[simp] def aCv (x:Bill):(dI x).c 7=.int x.tenor.unit:=zyz
@[simp] def aCw (x:Bill):(dI x).c 8=.int x.day:=zyz
@[simp] def aCx (x:Bill):(dI x).c 9=.int x.city:=zyz
@[simp] def aCl (x:Bill):(dI x).c 10=.int x.pay:=zyz
@[simp] def aCm (x:Bill):(dI x).c 11=.int x.need:=zyz
@[simp] def aCn (x:Bill):(dI x).c 12=.int x.rate:=zyz
@[simp] def aCo (x:Bill):(dI x).c 13=.int x.flags:=zyz
@[simp] def aCp (x:Bill):(dI x).c 14=.int x.parts:=zyz
def Bill.OK (x:Bill):Prop:=bh x.drawer/\bh x.drawee/\bh x.payee/\bh x.sum/\bh x.currency/\Tenor.OK x.tenor/\bh x.day/\bh x.city/\bh x.pay/\bh x.need/\bh x.rate/\bh x.flags/\bh x.parts
structure Sign where
 kind:Int
 part:Int
 who:Int
 for_:Int
 to:Int
 sum:Int
 day:Int
 city:Int
 flags:Int
 deriving DecidableEq,Inhabited
abbrev zzx (x:Sign):List D:=[.int x.kind,.int x.part,.int x.who,.int x.for_,.int x.to,.int x.sum,.int x.day,.int x.city,.int x.flags]
def kZ (x:Sign):D:=.agg (zzx x)
@[simp] def aD0 (x:Sign):(kZ x).cells=(zzx x):=zyz
@[simp] def aIb (x:Sign):D.agg (zzx x)=kZ x:=zyz
@[simp] def aER (x:Sign):kA 9 (kZ x)=kZ x:=zyz
@[simp] def aDR (x:Sign):(kZ x).c 0=.int x.kind:=zyz
@[simp] def aDS (x:Sign):(kZ x).c 1=.int x.part:=zyz
@[simp] def aDT (x:Sign):(kZ x).c 2=.int x.who:=zyz
@[simp] def aDU (x:Sign):(kZ x).c 3=.int x.for_:=zyz
@[simp] def aDV (x:Sign):(kZ x).c 4=.int x.to:=zyz
@[simp] def aDW (x:Sign):(kZ x).c 5=.int x.sum:=zyz
@[simp] def aDX (x:Sign):(kZ x).c 6=.int x.day:=zyz
@[simp] def aDY (x:Sign):(kZ x).c 7=.int x.city:=zyz
@[simp] def aDZ (x:Sign):(kZ x).c 8=.int x.flags:=zyz
def signs (l:List Sign):D:=.list (l.map kZ)
@[simp] def aIZ (l:List Sign):(signs l).l=l.map kZ:=zyz
@[simp] def aIY (l:List Sign):(signs l).cells=[signs l]:=zyz
abbrev aab:Ty:=.agg [.int .i64,.int .i64,.int .i64,.int .i64,.int .i64,.int .i64,.int .i64,.int .i64,.int .i64]
def Sign.OK (x:Sign):Prop:=bh x.kind/\bh x.part/\bh x.who/\bh x.for_/\bh x.to/\bh x.sum/\bh x.day/\bh x.city/\bh x.flags
def ayc {d:D}(h:DTy aab d):∃x:Sign,d=kZ x/\x.OK:=by
 obtain⟨ds,rfl,hs⟩:=h.agg_inv;obtain⟨d0,ds,rfl,h0,hs⟩:=hs.cons_inv;obtain⟨d1,ds,rfl,h1,hs⟩:=hs.cons_inv;obtain⟨d2,ds,rfl,h2,hs⟩:=hs.cons_inv;obtain⟨d3,ds,rfl,h3,hs⟩:=hs.cons_inv;obtain⟨d4,ds,rfl,h4,hs⟩:=hs.cons_inv;obtain⟨d5,ds,rfl,h5,hs⟩:=hs.cons_inv;obtain⟨d6,ds,rfl,h6,hs⟩:=hs.cons_inv;obtain⟨d7,ds,rfl,h7,hs⟩:=hs.cons_inv;obtain⟨d8,ds,rfl,h8,hs⟩:=hs.cons_inv;obtain rfl:=hs.nil_inv;obtain⟨n0,rfl,b0⟩:=h0.i64_inv;obtain⟨n1,rfl,b1⟩:=h1.i64_inv;obtain⟨n2,rfl,b2⟩:=h2.i64_inv;obtain⟨n3,rfl,b3⟩:=h3.i64_inv;obtain⟨n4,rfl,b4⟩:=h4.i64_inv;obtain⟨n5,rfl,b5⟩:=h5.i64_inv;obtain⟨n6,rfl,b6⟩:=h6.i64_inv;obtain⟨n7,rfl,b7⟩:=h7.i64_inv;obtain⟨n8,rfl,b8⟩:=h8.i64_inv;exact⟨⟨n0,n1,n2,n3,n4,n5,n6,n7,n8⟩,rfl,⟨b0,b1,b2,b3,b4,b5,b6,b7,b8⟩⟩
def aye {d:D}(h:DTy (.slice aab) d):∃l:List Sign,d=signs l/\l.length<=maxLen/\∀y,y∈l->Sign.OK y:=by
 obtain⟨xs,rfl,hm,hx⟩:=h.slice_inv;obtain⟨l,rfl,hl⟩:=kL (enc:=kZ) (P:=Sign.OK) λx hh=>ayc (hx x hh);exact⟨l,rfl,by simpa using hm,hl⟩
structure Alter where
 at_:Int
 sum:Int
 deriving DecidableEq,Inhabited
def rK (x:Alter):D:=.agg [.int x.at_,.int x.sum]
@[simp] def aCi (x:Alter):(rK x).cells=[.int x.at_,.int x.sum]:=zyz
@[simp] def aHR (x:Alter):D.agg [.int x.at_,.int x.sum]=rK x:=zyz
@[simp] def aCg (x:Alter):(rK x).c 0=.int x.at_:=zyz
@[simp] def aCh (x:Alter):(rK x).c 1=.int x.sum:=zyz
def alters (l:List Alter):D:=.list (l.map rK)
@[simp] def aEV (l:List Alter):(alters l).l=l.map rK:=zyz
@[simp] def aEU (l:List Alter):(alters l).cells=[alters l]:=zyz
abbrev Z1:Ty:=.agg [.int .i64,.int .i64]
def Alter.OK (x:Alter):Prop:=bh x.at_/\bh x.sum
def alq {d:D}(h:DTy Z1 d):∃x:Alter,d=rK x/\x.OK:=by
 obtain⟨ds,rfl,hs⟩:=h.agg_inv;obtain⟨d0,ds,rfl,h0,hs⟩:=hs.cons_inv;obtain⟨d1,ds,rfl,h1,hs⟩:=hs.cons_inv;obtain rfl:=hs.nil_inv;obtain⟨n0,rfl,b0⟩:=h0.i64_inv;obtain⟨n1,rfl,b1⟩:=h1.i64_inv;exact⟨⟨n0,n1⟩,rfl,⟨b0,b1⟩⟩
def alr {d:D}(h:DTy (.slice Z1) d):∃l:List Alter,d=alters l/\l.length<=maxLen/\∀y,y∈l->Alter.OK y:=by
 obtain⟨xs,rfl,hm,hx⟩:=h.slice_inv;obtain⟨l,rfl,hl⟩:=kL (enc:=rK) (P:=Alter.OK) λx hh=>alq (hx x hh);exact⟨l,rfl,by simpa using hm,hl⟩
structure Act where
 kind:Int
 who:Int
 to:Int
 part:Int
 at_:Int
 sum:Int
 day:Int
 city:Int
 form:Int
 deriving DecidableEq,Inhabited
abbrev zzw (x:Act):List D:=[.int x.kind,.int x.who,.int x.to,.int x.part,.int x.at_,.int x.sum,.int x.day,.int x.city,.int x.form]
def kC (x:Act):D:=.agg (zzw x)
@[simp] def aCf (x:Act):(kC x).cells=(zzw x):=zyz
@[simp] def aHQ (x:Act):D.agg (zzw x)=kC x:=zyz
@[simp] def aEK (x:Act):kA 9 (kC x)=kC x:=zyz
@[simp] def aB6 (x:Act):(kC x).c 0=.int x.kind:=zyz
@[simp] def aB7 (x:Act):(kC x).c 1=.int x.who:=zyz
@[simp] def aB8 (x:Act):(kC x).c 2=.int x.to:=zyz
@[simp] def aB9 (x:Act):(kC x).c 3=.int x.part:=zyz
@[simp] def aCa (x:Act):(kC x).c 4=.int x.at_:=zyz
@[simp] def aCb (x:Act):(kC x).c 5=.int x.sum:=zyz
@[simp] def aCc (x:Act):(kC x).c 6=.int x.day:=zyz
@[simp] def aCd (x:Act):(kC x).c 7=.int x.city:=zyz
@[simp] def aCe (x:Act):(kC x).c 8=.int x.form:=zyz
def acts (l:List Act):D:=.list (l.map kC)
@[simp] def aEE (l:List Act):(acts l).l=l.map kC:=zyz
@[simp] def aED (l:List Act):(acts l).cells=[acts l]:=zyz
abbrev Z0:Ty:=.agg [.int .i64,.int .i64,.int .i64,.int .i64,.int .i64,.int .i64,.int .i64,.int .i64,.int .i64]
def Act.OK (x:Act):Prop:=bh x.kind/\bh x.who/\bh x.to/\bh x.part/\bh x.at_/\bh x.sum/\bh x.day/\bh x.city/\bh x.form
def alg {d:D}(h:DTy Z0 d):∃x:Act,d=kC x/\x.OK:=by
 obtain⟨ds,rfl,hs⟩:=h.agg_inv;obtain⟨d0,ds,rfl,h0,hs⟩:=hs.cons_inv;obtain⟨d1,ds,rfl,h1,hs⟩:=hs.cons_inv;obtain⟨d2,ds,rfl,h2,hs⟩:=hs.cons_inv;obtain⟨d3,ds,rfl,h3,hs⟩:=hs.cons_inv;obtain⟨d4,ds,rfl,h4,hs⟩:=hs.cons_inv;obtain⟨d5,ds,rfl,h5,hs⟩:=hs.cons_inv;obtain⟨d6,ds,rfl,h6,hs⟩:=hs.cons_inv;obtain⟨d7,ds,rfl,h7,hs⟩:=hs.cons_inv;obtain⟨d8,ds,rfl,h8,hs⟩:=hs.cons_inv;obtain rfl:=hs.nil_inv;obtain⟨n0,rfl,b0⟩:=h0.i64_inv;obtain⟨n1,rfl,b1⟩:=h1.i64_inv;obtain⟨n2,rfl,b2⟩:=h2.i64_inv;obtain⟨n3,rfl,b3⟩:=h3.i64_inv;obtain⟨n4,rfl,b4⟩:=h4.i64_inv;obtain⟨n5,rfl,b5⟩:=h5.i64_inv;obtain⟨n6,rfl,b6⟩:=h6.i64_inv;obtain⟨n7,rfl,b7⟩:=h7.i64_inv;obtain⟨n8,rfl,b8⟩:=h8.i64_inv;exact⟨⟨n0,n1,n2,n3,n4,n5,n6,n7,n8⟩,rfl,⟨b0,b1,b2,b3,b4,b5,b6,b7,b8⟩⟩
def alh {d:D}(h:DTy (.slice Z0) d):∃l:List Act,d=acts l/\l.length<=maxLen/\∀y,y∈l->Act.OK y:=by
 obtain⟨xs,rfl,hm,hx⟩:=h.slice_inv;obtain⟨l,rfl,hl⟩:=kL (enc:=kC) (P:=Act.OK) λx hh=>alg (hx x hh);exact⟨l,rfl,by simpa using hm,hl⟩
structure Fact where
 kind:Int
 at_:Int
 n:Int
 deriving DecidableEq,Inhabited
def tA (x:Fact):D:=.agg [.int x.kind,.int x.at_,.int x.n]
@[simp] def aC1 (x:Fact):(tA x).cells=[.int x.kind,.int x.at_,.int x.n]:=zyz
@[simp] def aHY (x:Fact):D.agg [.int x.kind,.int x.at_,.int x.n]=tA x:=zyz
@[simp] def aCY (x:Fact):(tA x).c 0=.int x.kind:=zyz
@[simp] def aCZ (x:Fact):(tA x).c 1=.int x.at_:=zyz
@[simp] def aC0 (x:Fact):(tA x).c 2=.int x.n:=zyz
def facts (l:List Fact):D:=.list (l.map tA)
@[simp] def aGq (l:List Fact):(facts l).l=l.map tA:=zyz
@[simp] def aGp (l:List Fact):(facts l).cells=[facts l]:=zyz
abbrev Z4:Ty:=.agg [.int .i64,.int .i64,.int .i64]
def Fact.OK (x:Fact):Prop:=bh x.kind/\bh x.at_/\bh x.n
def aoo {d:D}(h:DTy Z4 d):∃x:Fact,d=tA x/\x.OK:=by
 obtain⟨ds,rfl,hs⟩:=h.agg_inv;obtain⟨d0,ds,rfl,h0,hs⟩:=hs.cons_inv;obtain⟨d1,ds,rfl,h1,hs⟩:=hs.cons_inv;obtain⟨d2,ds,rfl,h2,hs⟩:=hs.cons_inv;obtain rfl:=hs.nil_inv;obtain⟨n0,rfl,b0⟩:=h0.i64_inv;obtain⟨n1,rfl,b1⟩:=h1.i64_inv;obtain⟨n2,rfl,b2⟩:=h2.i64_inv;exact⟨⟨n0,n1,n2⟩,rfl,⟨b0,b1,b2⟩⟩
def acG {d:D}(h:DTy (.slice Z4) d):∃l:List Fact,d=facts l/\l.length<=maxLen/\∀y,y∈l->Fact.OK y:=by
 obtain⟨xs,rfl,hm,hx⟩:=h.slice_inv;obtain⟨l,rfl,hl⟩:=kL (enc:=tA) (P:=Fact.OK) λx hh=>aoo (hx x hh);exact⟨l,rfl,by simpa using hm,hl⟩
structure File where
 bill:Bill
 signs:List Sign
 alters:List Alter
 acts:List Act
 facts:List Fact
 deriving Inhabited
abbrev WP (x:File):List D:=[.int x.bill.drawer,.int x.bill.drawee,.int x.bill.payee,.int x.bill.sum,.int x.bill.currency,.int x.bill.tenor.kind,.int x.bill.tenor.n,.int x.bill.tenor.unit,.int x.bill.day,.int x.bill.city,.int x.bill.pay,.int x.bill.need,.int x.bill.rate,.int x.bill.flags,.int x.bill.parts,signs x.signs,alters x.alters,acts x.acts,facts x.facts]
def bW (x:File):D:=.agg (WP x)
@[simp] def aDa (x:File):(bW x).cells=(WP x):=zyz
@[simp] def aHZ (x:File):D.agg (WP x)=bW x:=zyz
@[simp] def aEN (x:File):kA 19 (bW x)=bW x:=zyz
@[simp] def aIq (x:File)(a0 a1 a2 a3 a4 a5 a6 a7 a8 a9 mY mZ a12 na nf pX pY a17 rk:D):D.agg (dF [a0,a1,a2,a3,a4,a5,a6,a7,a8,a9,mY,mZ,a12,na,nf,pX,pY,a17,rk] 0 (WP x))=bW x:=zyz
@[simp] def aC7 (x:File):(bW x).c 3=.int x.bill.sum:=zyz
@[simp] def aC8 (x:File):(bW x).c 5=.int x.bill.tenor.kind:=zyz
@[simp] def aC9 (x:File):(bW x).c 8=.int x.bill.day:=zyz
@[simp] def aC2 (x:File):(bW x).c 14=.int x.bill.parts:=zyz
@[simp] def aC3 (x:File):(bW x).c 15=signs x.signs:=zyz
@[simp] def aC4 (x:File):(bW x).c 16=alters x.alters:=zyz
@[simp] def aC5 (x:File):(bW x).c 17=acts x.acts:=zyz
@[simp] def aC6 (x:File):(bW x).c 18=facts x.facts:=zyz
abbrev aBj:Ty:=.agg [.int .i64,.int .i64,.int .i64,.int .i64,.int .i64,.int .i64,.int .i64,.int .i64,.int .i64,.int .i64,.int .i64,.int .i64,.int .i64,.int .i64,.int .i64,.slice aab,.slice Z1,.slice Z0,.slice Z4]
def File.OK (x:File):Prop:=Bill.OK x.bill/\(x.signs.length<=maxLen/\∀y,y∈x.signs->Sign.OK y)/\(x.alters.length<=maxLen/\∀y,y∈x.alters->Alter.OK y)/\(x.acts.length<=maxLen/\∀y,y∈x.acts->Act.OK y)/\(x.facts.length<=maxLen/\∀y,y∈x.facts->Fact.OK y)
def aoq {d:D}(h:DTy aBj d):∃x:File,d=bW x/\x.OK:=by
 obtain⟨ds,rfl,hs⟩:=h.agg_inv;obtain⟨d0,ds,rfl,h0,hs⟩:=hs.cons_inv;obtain⟨d1,ds,rfl,h1,hs⟩:=hs.cons_inv;obtain⟨d2,ds,rfl,h2,hs⟩:=hs.cons_inv;obtain⟨d3,ds,rfl,h3,hs⟩:=hs.cons_inv;obtain⟨d4,ds,rfl,h4,hs⟩:=hs.cons_inv;obtain⟨d5,ds,rfl,h5,hs⟩:=hs.cons_inv;obtain⟨d6,ds,rfl,h6,hs⟩:=hs.cons_inv;obtain⟨d7,ds,rfl,h7,hs⟩:=hs.cons_inv;obtain⟨d8,ds,rfl,h8,hs⟩:=hs.cons_inv;obtain⟨d9,ds,rfl,h9,hs⟩:=hs.cons_inv;obtain⟨d10,ds,rfl,jA,hs⟩:=hs.cons_inv;obtain⟨d11,ds,rfl,uX,hs⟩:=hs.cons_inv;obtain⟨d12,ds,rfl,RT,hs⟩:=hs.cons_inv;obtain⟨d13,ds,rfl,h13,hs⟩:=hs.cons_inv;obtain⟨d14,ds,rfl,h14,hs⟩:=hs.cons_inv;obtain⟨d15,ds,rfl,Lz,hs⟩:=hs.cons_inv;obtain⟨d16,ds,rfl,LA,hs⟩:=hs.cons_inv;obtain⟨d17,ds,rfl,LB,hs⟩:=hs.cons_inv;obtain⟨d18,ds,rfl,LD,hs⟩:=hs.cons_inv;obtain rfl:=hs.nil_inv;obtain⟨n0,rfl,b0⟩:=h0.i64_inv;obtain⟨n1,rfl,b1⟩:=h1.i64_inv;obtain⟨n2,rfl,b2⟩:=h2.i64_inv;obtain⟨n3,rfl,b3⟩:=h3.i64_inv;obtain⟨n4,rfl,b4⟩:=h4.i64_inv;obtain⟨n5,rfl,b5⟩:=h5.i64_inv;obtain⟨n6,rfl,b6⟩:=h6.i64_inv;obtain⟨n7,rfl,b7⟩:=h7.i64_inv;obtain⟨n8,rfl,b8⟩:=h8.i64_inv;obtain⟨n9,rfl,b9⟩:=h9.i64_inv;obtain⟨n10,rfl,b10⟩:=jA.i64_inv;obtain⟨n11,rfl,b11⟩:=uX.i64_inv;obtain⟨n12,rfl,b12⟩:=RT.i64_inv;obtain⟨n13,rfl,b13⟩:=h13.i64_inv;obtain⟨n14,rfl,b14⟩:=h14.i64_inv;obtain⟨n15,rfl,b15,c15⟩:=aye Lz;obtain⟨n16,rfl,b16,c16⟩:=alr LA;obtain⟨n17,rfl,b17,c17⟩:=alh LB;obtain⟨n18,rfl,b18,c18⟩:=acG LD;exact⟨⟨⟨n0,n1,n2,n3,n4,⟨n5,n6,n7⟩,n8,n9,n10,n11,n12,n13,n14⟩,n15,n16,n17,n18⟩,rfl,⟨⟨b0,b1,b2,b3,b4,⟨b5,b6,b7⟩,b8,b9,b10,b11,b12,b13,b14⟩,⟨b15,c15⟩,⟨b16,c16⟩,⟨b17,c17⟩,⟨b18,c18⟩⟩⟩
structure Case where
 file:File
 sign:Int
 holder:Int
 defence:Int
 due:Int
 day:Int
 deriving Inhabited
def fV (x:Case):D:=.agg [.int x.file.bill.drawer,.int x.file.bill.drawee,.int x.file.bill.payee,.int x.file.bill.sum,.int x.file.bill.currency,.int x.file.bill.tenor.kind,.int x.file.bill.tenor.n,.int x.file.bill.tenor.unit,.int x.file.bill.day,.int x.file.bill.city,.int x.file.bill.pay,.int x.file.bill.need,.int x.file.bill.rate,.int x.file.bill.flags,.int x.file.bill.parts,signs x.file.signs,alters x.file.alters,acts x.file.acts,facts x.file.facts,.int x.sign,.int x.holder,.int x.defence,.int x.due,.int x.day]
@[simp] def aCH (x:Case):(fV x).cells=[.int x.file.bill.drawer,.int x.file.bill.drawee,.int x.file.bill.payee,.int x.file.bill.sum,.int x.file.bill.currency,.int x.file.bill.tenor.kind,.int x.file.bill.tenor.n,.int x.file.bill.tenor.unit,.int x.file.bill.day,.int x.file.bill.city,.int x.file.bill.pay,.int x.file.bill.need,.int x.file.bill.rate,.int x.file.bill.flags,.int x.file.bill.parts,signs x.file.signs,alters x.file.alters,acts x.file.acts,facts x.file.facts,.int x.sign,.int x.holder,.int x.defence,.int x.due,.int x.day]:=zyz
@[simp] def aHT (x:Case):D.agg [.int x.file.bill.drawer,.int x.file.bill.drawee,.int x.file.bill.payee,.int x.file.bill.sum,.int x.file.bill.currency,.int x.file.bill.tenor.kind,.int x.file.bill.tenor.n,.int x.file.bill.tenor.unit,.int x.file.bill.day,.int x.file.bill.city,.int x.file.bill.pay,.int x.file.bill.need,.int x.file.bill.rate,.int x.file.bill.flags,.int x.file.bill.parts,signs x.file.signs,alters x.file.alters,acts x.file.acts,facts x.file.facts,.int x.sign,.int x.holder,.int x.defence,.int x.due,.int x.day]=fV x:=zyz
@[simp] def alp (x:Case):kA 24 (fV x)=fV x:=zyz
@[simp] def avY (x:Case)(a0 a1 a2 a3 a4 a5 a6 a7 a8 a9 mY mZ a12 na nf pX pY a17 rk PW a20 a21 a22 a23:D):D.agg (dF [a0,a1,a2,a3,a4,a5,a6,a7,a8,a9,mY,mZ,a12,na,nf,pX,pY,a17,rk,PW,a20,a21,a22,a23] 0 [.int x.file.bill.drawer,.int x.file.bill.drawee,.int x.file.bill.payee,.int x.file.bill.sum,.int x.file.bill.currency,.int x.file.bill.tenor.kind,.int x.file.bill.tenor.n,.int x.file.bill.tenor.unit,.int x.file.bill.day,.int x.file.bill.city,.int x.file.bill.pay,.int x.file.bill.need,.int x.file.bill.rate,.int x.file.bill.flags,.int x.file.bill.parts,signs x.file.signs,alters x.file.alters,acts x.file.acts,facts x.file.facts,.int x.sign,.int x.holder,.int x.defence,.int x.due,.int x.day])=fV x:=zyz
@[simp] def aCG (x:Case):(fV x).c 9=.int x.file.bill.city:=zyz
@[simp] def aCz (x:Case):(fV x).c 10=.int x.file.bill.pay:=zyz
@[simp] def aCA (x:Case):(fV x).c 15=signs x.file.signs:=zyz
@[simp] def aCB (x:Case):(fV x).c 19=.int x.sign:=zyz
@[simp] def aCC (x:Case):(fV x).c 20=.int x.holder:=zyz
@[simp] def aCD (x:Case):(fV x).c 21=.int x.defence:=zyz
@[simp] def aCE (x:Case):(fV x).c 22=.int x.due:=zyz
@[simp] def aCF (x:Case):(fV x).c 23=.int x.day:=zyz
def cases(l:List Case):D:=.list (l.map fV)
structure Cell where
 known:Bool
 n:Int
 deriving DecidableEq,Inhabited
def cV (x:Cell):D:=.agg [.bool x.known,.int x.n]
@[simp] def aCK (x:Cell):(cV x).cells=[.bool x.known,.int x.n]:=zyz
@[simp] def aHU (x:Cell):D.agg [.bool x.known,.int x.n]=cV x:=zyz
@[simp] def aCI (x:Cell):(cV x).c 0=.bool x.known:=zyz
@[simp] def aCJ (x:Cell):(cV x).c 1=.int x.n:=zyz
def cells (l:List Cell):D:=.list (l.map cV)
@[simp] def aFb (l:List Cell):(cells l).l=l.map cV:=zyz
@[simp] def aFa (l:List Cell):(cells l).cells=[cells l]:=zyz
structure Said where
 cell:Cell
 order:Int
 path:List Int
 err:Int
 deriving Inhabited
def rM (x:Said):D:=.agg [.bool x.cell.known,.int x.cell.n,.int x.order,ints x.path,.int x.err]
@[simp] def aDN (x:Said):(rM x).cells=[.bool x.cell.known,.int x.cell.n,.int x.order,ints x.path,.int x.err]:=zyz
@[simp] def aH9 (x:Said):D.agg [.bool x.cell.known,.int x.cell.n,.int x.order,ints x.path,.int x.err]=rM x:=zyz
@[simp] def aEQ (x:Said):kA 5 (rM x)=rM x:=zyz
structure Effect where
 sign:Int
 kind:Int
 firm:Int
 binds:Int
 text:Int
 sum:Int
 recourse:Bool
 deriving DecidableEq,Inhabited
def jT (x:Effect):D:=.agg [.int x.sign,.int x.kind,.int x.firm,.int x.binds,.int x.text,.int x.sum,.bool x.recourse]
@[simp] def aCX (x:Effect):(jT x).cells=[.int x.sign,.int x.kind,.int x.firm,.int x.binds,.int x.text,.int x.sum,.bool x.recourse]:=zyz
@[simp] def aHX (x:Effect):D.agg [.int x.sign,.int x.kind,.int x.firm,.int x.binds,.int x.text,.int x.sum,.bool x.recourse]=jT x:=zyz
@[simp] def aCV (x:Effect):(jT x).c 2=.int x.firm:=zyz
@[simp] def aCW (x:Effect):(jT x).c 5=.int x.sum:=zyz
def oJ (l:List Effect):D:=.list (l.map jT)
@[simp] def aFE (l:List Effect):(oJ l).l=l.map jT:=zyz
@[simp] def aJb (a0 x0:D):dF [a0] 0 [x0]=[x0]:=zyz
@[simp] def aJc (a0 a1 x0 x1:D):dF [a0,a1] 0 [x0,x1]=[x0,x1]:=zyz
@[simp] def aJd (a0 a1 a2 x0 x1 x2:D):dF [a0,a1,a2] 0 [x0,x1,x2]=[x0,x1,x2]:=zyz
@[simp] def aJe (a0 a1 a2 a3 x0 x1 x2 x3:D):dF [a0,a1,a2,a3] 0 [x0,x1,x2,x3]=[x0,x1,x2,x3]:=zyz
@[simp] def aJf (a0 a1 a2 a3 a4 x0 x1 x2 x3 x4:D):dF [a0,a1,a2,a3,a4] 0 [x0,x1,x2,x3,x4]=[x0,x1,x2,x3,x4]:=zyz
@[simp] def aJg (a0 a1 a2 a3 a4 a5 x0 x1 x2 x3 x4 x5:D):dF [a0,a1,a2,a3,a4,a5] 0 [x0,x1,x2,x3,x4,x5]=[x0,x1,x2,x3,x4,x5]:=zyz
@[simp] def aJh (a0 a1 a2 a3 a4 a5 a6 x0 x1 x2 x3 x4 x5 x6:D):dF [a0,a1,a2,a3,a4,a5,a6] 0 [x0,x1,x2,x3,x4,x5,x6]=[x0,x1,x2,x3,x4,x5,x6]:=zyz
@[simp] def aJi (a0 a1 a2 a3 a4 a5 a6 a7 a8 x0 x1 x2 x3 x4 x5 x6 x7 x8:D):dF [a0,a1,a2,a3,a4,a5,a6,a7,a8] 0 [x0,x1,x2,x3,x4,x5,x6,x7,x8]=[x0,x1,x2,x3,x4,x5,x6,x7,x8]:=zyz
end Rm
