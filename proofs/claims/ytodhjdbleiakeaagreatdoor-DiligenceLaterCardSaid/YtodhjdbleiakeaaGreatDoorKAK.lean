/-
  Shared texts of this claim.
-/
import Derived.Test.YtodhjdbleiakeaaGreatDoorKAJ
import Derived.Test.YtodhjdbleiakeaaGreatDoorProg
set_option linter.unusedSimpArgs false
set_option linter.unusedVariables false
namespace Rm
open Go Cx
abbrev str (b:ByteArray):D:=.v (.string b)
def strs (l:List ByteArray):D:=.list (l.map str)
@[simp] theorem ayd (l:List ByteArray):(strs l).l=l.map str:=_root_.id rfl
theorem str_inv {d:D}(h:DTy .str d):∃b,d=str b:=by
 cases h with
 |str b=>exact⟨b,rfl⟩
 |other t d h=>exact h.elim
theorem ayc {d:D}(h:DTy (.slice .str) d):∃l:List ByteArray,d=strs l∧l.length≤maxLen:=by
 obtain⟨xs,rfl,hm,hx⟩:=h.slice_inv;obtain⟨l,rfl,hl⟩:=jq (enc:=str) (P:=fun _=>True) fun x hh=>(str_inv (hx x hh)).imp fun b hb=>⟨hb,trivial⟩
 exact⟨l,rfl,by simpa using hm⟩
@[simp] theorem aDC (t:Tm):(dt t).cells=[.int t.op,.int t.n,.list (t.args.map dt)]:=by rw[Ar];rfl
@[simp] theorem aDD (t:Tm):D.agg [.int t.op,.int t.n,.list (t.args.map dt)]=dt t:=(Ar t).symm
@[simp] theorem aDz (t:Tm):(dt t).c 0=.int t.op:=by rw[Ar];rfl
@[simp] theorem aDA (t:Tm):(dt t).c 1=.int t.n:=by rw[Ar];rfl
@[simp] theorem aDB (t:Tm):(dt t).c 2=.list (t.args.map dt):=by rw[Ar];rfl
structure City where
 name:ByteArray
 order:Int
 currency:Int
 rest:List Int
 feasts:List Int
 shut:List Int
 deriving Inhabited
def fe (x:City):D:=.agg [str x.name,.int x.order,.int x.currency,ints x.rest,ints x.feasts,ints x.shut]
@[simp] theorem aB7 (x:City):(fe x).cells=[str x.name,.int x.order,.int x.currency,ints x.rest,ints x.feasts,ints x.shut]:=_root_.id rfl
@[simp] theorem aGJ (x:City):D.agg [str x.name,.int x.order,.int x.currency,ints x.rest,ints x.feasts,ints x.shut]=fe x:=_root_.id rfl
@[simp] theorem aDX (x:City):iu 6 (fe x)=fe x:=_root_.id rfl
@[simp] theorem aB1 (x:City):(fe x).c 0=str x.name:=_root_.id rfl
@[simp] theorem aB2 (x:City):(fe x).c 1=.int x.order:=_root_.id rfl
@[simp] theorem aB3 (x:City):(fe x).c 2=.int x.currency:=_root_.id rfl
@[simp] theorem aB4 (x:City):(fe x).c 3=ints x.rest:=_root_.id rfl
@[simp] theorem aB5 (x:City):(fe x).c 4=ints x.feasts:=_root_.id rfl
@[simp] theorem aB6 (x:City):(fe x).c 5=ints x.shut:=_root_.id rfl
def kH (l:List City):D:=.list (l.map fe)
@[simp] theorem aEp (l:List City):(kH l).l=l.map fe:=_root_.id rfl
abbrev UX:Ty:=.agg [.str,.int .i64,.int .i64,.slice (.int .i64),.slice (.int .i64),.slice (.int .i64)]
def City.OK (x:City):Prop:=aX x.order∧aX x.currency∧(x.rest.length≤maxLen∧∀y,y∈x.rest→aX y)∧(x.feasts.length≤maxLen∧∀y,y∈x.feasts→aX y)∧(x.shut.length≤maxLen∧∀y,y∈x.shut→aX y)
theorem alK {d:D}(h:DTy UX d):∃x:City,d=fe x∧x.OK:=by
 obtain⟨ds,rfl,hs⟩:=h.agg_inv;obtain⟨d0,ds,rfl,h0,hs⟩:=hs.cons_inv;obtain⟨d1,ds,rfl,h1,hs⟩:=hs.cons_inv;obtain⟨d2,ds,rfl,h2,hs⟩:=hs.cons_inv;obtain⟨d3,ds,rfl,h3,hs⟩:=hs.cons_inv;obtain⟨d4,ds,rfl,h4,hs⟩:=hs.cons_inv;obtain⟨d5,ds,rfl,h5,hs⟩:=hs.cons_inv;obtain rfl:=hs.nil_inv;obtain⟨n0,rfl⟩:=str_inv h0;obtain⟨n1,rfl,b1⟩:=h1.i64_inv;obtain⟨n2,rfl,b2⟩:=h2.i64_inv;obtain⟨n3,rfl,b3,c3⟩:=h3.ints_inv;obtain⟨n4,rfl,b4,c4⟩:=h4.ints_inv;obtain⟨n5,rfl,b5,c5⟩:=h5.ints_inv;exact⟨⟨n0,n1,n2,n3,n4,n5⟩,rfl,⟨b1,b2,⟨b3,c3⟩,⟨b4,c4⟩,⟨b5,c5⟩⟩⟩
theorem alL {d:D}(h:DTy (.slice UX) d):∃l:List City,d=kH l∧l.length≤maxLen∧∀y,y∈l→City.OK y:=by
 obtain⟨xs,rfl,hm,hx⟩:=h.slice_inv;obtain⟨l,rfl,hl⟩:=jq (enc:=fe) (P:=City.OK) fun x hh=>alK (hx x hh);exact⟨l,rfl,by simpa using hm,hl⟩
structure Firm where
 name:ByteArray
 city:Int
 group:Int
 deriving Inhabited
def qf (x:Firm):D:=.agg [str x.name,.int x.city,.int x.group]
@[simp] theorem aCM (x:Firm):(qf x).cells=[str x.name,.int x.city,.int x.group]:=_root_.id rfl
@[simp] theorem aGN (x:Firm):D.agg [str x.name,.int x.city,.int x.group]=qf x:=_root_.id rfl
@[simp] theorem aCJ (x:Firm):(qf x).c 0=str x.name:=_root_.id rfl
@[simp] theorem aCK (x:Firm):(qf x).c 1=.int x.city:=_root_.id rfl
@[simp] theorem aCL (x:Firm):(qf x).c 2=.int x.group:=_root_.id rfl
def firms (l:List Firm):D:=.list (l.map qf)
@[simp] theorem aFB (l:List Firm):(firms l).l=l.map qf:=_root_.id rfl
abbrev UZ:Ty:=.agg [.str,.int .i64,.int .i64]
def Firm.OK (x:Firm):Prop:=aX x.city∧aX x.group
theorem ant {d:D}(h:DTy UZ d):∃x:Firm,d=qf x∧x.OK:=by
 obtain⟨ds,rfl,hs⟩:=h.agg_inv;obtain⟨d0,ds,rfl,h0,hs⟩:=hs.cons_inv;obtain⟨d1,ds,rfl,h1,hs⟩:=hs.cons_inv;obtain⟨d2,ds,rfl,h2,hs⟩:=hs.cons_inv;obtain rfl:=hs.nil_inv;obtain⟨n0,rfl⟩:=str_inv h0;obtain⟨n1,rfl,b1⟩:=h1.i64_inv;obtain⟨n2,rfl,b2⟩:=h2.i64_inv;exact⟨⟨n0,n1,n2⟩,rfl,⟨b1,b2⟩⟩
theorem anu {d:D}(h:DTy (.slice UZ) d):∃l:List Firm,d=firms l∧l.length≤maxLen∧∀y,y∈l→Firm.OK y:=by
 obtain⟨xs,rfl,hm,hx⟩:=h.slice_inv;obtain⟨l,rfl,hl⟩:=jq (enc:=qf) (P:=Firm.OK) fun x hh=>ant (hx x hh);exact⟨l,rfl,by simpa using hm,hl⟩
structure Group where
 grade:Int
 deriving DecidableEq,Inhabited
def tA (x:Group):D:=.agg [.int x.grade]
@[simp] theorem aCO (x:Group):(tA x).cells=[.int x.grade]:=_root_.id rfl
@[simp] theorem aGO (x:Group):D.agg [.int x.grade]=tA x:=_root_.id rfl
@[simp] theorem aCN (x:Group):(tA x).c 0=.int x.grade:=_root_.id rfl
def groups (l:List Group):D:=.list (l.map tA)
@[simp] theorem aFJ (l:List Group):(groups l).l=l.map tA:=_root_.id rfl
abbrev U0:Ty:=.agg [.int .i64]
def Group.OK (x:Group):Prop:=aX x.grade
theorem aqe {d:D}(h:DTy U0 d):∃x:Group,d=tA x∧x.OK:=by
 obtain⟨ds,rfl,hs⟩:=h.agg_inv;obtain⟨d0,ds,rfl,h0,hs⟩:=hs.cons_inv;obtain rfl:=hs.nil_inv;obtain⟨n0,rfl,b0⟩:=h0.i64_inv;exact⟨⟨n0⟩,rfl,b0⟩
theorem aqf {d:D}(h:DTy (.slice U0) d):∃l:List Group,d=groups l∧l.length≤maxLen∧∀y,y∈l→Group.OK y:=by
 obtain⟨xs,rfl,hm,hx⟩:=h.slice_inv;obtain⟨l,rfl,hl⟩:=jq (enc:=tA) (P:=Group.OK) fun x hh=>aqe (hx x hh);exact⟨l,rfl,by simpa using hm,hl⟩
structure Usance where
 fr:Int
 to:Int
 days:Int
 deriving DecidableEq,Inhabited
def qj (x:Usance):D:=.agg [.int x.fr,.int x.to,.int x.days]
@[simp] theorem aDM (x:Usance):(qj x).cells=[.int x.fr,.int x.to,.int x.days]:=_root_.id rfl
@[simp] theorem aGZ (x:Usance):D.agg [.int x.fr,.int x.to,.int x.days]=qj x:=_root_.id rfl
@[simp] theorem aDJ (x:Usance):(qj x).c 0=.int x.fr:=_root_.id rfl
@[simp] theorem aDK (x:Usance):(qj x).c 1=.int x.to:=_root_.id rfl
@[simp] theorem aDL (x:Usance):(qj x).c 2=.int x.days:=_root_.id rfl
def usances (l:List Usance):D:=.list (l.map qj)
@[simp] theorem aId (l:List Usance):(usances l).l=l.map qj:=_root_.id rfl
abbrev U6:Ty:=.agg [.int .i64,.int .i64,.int .i64]
def Usance.OK (x:Usance):Prop:=aX x.fr∧aX x.to∧aX x.days
theorem aAQ {d:D}(h:DTy U6 d):∃x:Usance,d=qj x∧x.OK:=by
 obtain⟨ds,rfl,hs⟩:=h.agg_inv;obtain⟨d0,ds,rfl,h0,hs⟩:=hs.cons_inv;obtain⟨d1,ds,rfl,h1,hs⟩:=hs.cons_inv;obtain⟨d2,ds,rfl,h2,hs⟩:=hs.cons_inv;obtain rfl:=hs.nil_inv;obtain⟨n0,rfl,b0⟩:=h0.i64_inv;obtain⟨n1,rfl,b1⟩:=h1.i64_inv;obtain⟨n2,rfl,b2⟩:=h2.i64_inv;exact⟨⟨n0,n1,n2⟩,rfl,⟨b0,b1,b2⟩⟩
theorem aAR {d:D}(h:DTy (.slice U6) d):∃l:List Usance,d=usances l∧l.length≤maxLen∧∀y,y∈l→Usance.OK y:=by
 obtain⟨xs,rfl,hm,hx⟩:=h.slice_inv;obtain⟨l,rfl,hl⟩:=jq (enc:=qj) (P:=Usance.OK) fun x hh=>aAQ (hx x hh);exact⟨l,rfl,by simpa using hm,hl⟩
structure Rate where
 fr:Int
 to:Int
 num:Int
 den:Int
 since:Int
 deriving DecidableEq,Inhabited
def nC (x:Rate):D:=.agg [.int x.fr,.int x.to,.int x.num,.int x.den,.int x.since]
@[simp] theorem aC8 (x:Rate):(nC x).cells=[.int x.fr,.int x.to,.int x.num,.int x.den,.int x.since]:=_root_.id rfl
@[simp] theorem aGS (x:Rate):D.agg [.int x.fr,.int x.to,.int x.num,.int x.den,.int x.since]=nC x:=_root_.id rfl
@[simp] theorem aC3 (x:Rate):(nC x).c 0=.int x.fr:=_root_.id rfl
@[simp] theorem aC4 (x:Rate):(nC x).c 1=.int x.to:=_root_.id rfl
@[simp] theorem aC5 (x:Rate):(nC x).c 2=.int x.num:=_root_.id rfl
@[simp] theorem aC6 (x:Rate):(nC x).c 3=.int x.den:=_root_.id rfl
@[simp] theorem aC7 (x:Rate):(nC x).c 4=.int x.since:=_root_.id rfl
def rates (l:List Rate):D:=.list (l.map nC)
@[simp] theorem aHD (l:List Rate):(rates l).l=l.map nC:=_root_.id rfl
abbrev U3:Ty:=.agg [.int .i64,.int .i64,.int .i64,.int .i64,.int .i64]
def Rate.OK (x:Rate):Prop:=aX x.fr∧aX x.to∧aX x.num∧aX x.den∧aX x.since
theorem axe {d:D}(h:DTy U3 d):∃x:Rate,d=nC x∧x.OK:=by
 obtain⟨ds,rfl,hs⟩:=h.agg_inv;obtain⟨d0,ds,rfl,h0,hs⟩:=hs.cons_inv;obtain⟨d1,ds,rfl,h1,hs⟩:=hs.cons_inv;obtain⟨d2,ds,rfl,h2,hs⟩:=hs.cons_inv;obtain⟨d3,ds,rfl,h3,hs⟩:=hs.cons_inv;obtain⟨d4,ds,rfl,h4,hs⟩:=hs.cons_inv;obtain rfl:=hs.nil_inv;obtain⟨n0,rfl,b0⟩:=h0.i64_inv;obtain⟨n1,rfl,b1⟩:=h1.i64_inv;obtain⟨n2,rfl,b2⟩:=h2.i64_inv;obtain⟨n3,rfl,b3⟩:=h3.i64_inv;obtain⟨n4,rfl,b4⟩:=h4.i64_inv;exact⟨⟨n0,n1,n2,n3,n4⟩,rfl,⟨b0,b1,b2,b3,b4⟩⟩
theorem axf {d:D}(h:DTy (.slice U3) d):∃l:List Rate,d=rates l∧l.length≤maxLen∧∀y,y∈l→Rate.OK y:=by
 obtain⟨xs,rfl,hm,hx⟩:=h.slice_inv;obtain⟨l,rfl,hl⟩:=jq (enc:=nC) (P:=Rate.OK) fun x hh=>axe (hx x hh);exact⟨l,rfl,by simpa using hm,hl⟩
structure Halt where
 order:Int
 fr:Int
 to:Int
 deriving DecidableEq,Inhabited
def qg (x:Halt):D:=.agg [.int x.order,.int x.fr,.int x.to]
@[simp] theorem aCS (x:Halt):(qg x).cells=[.int x.order,.int x.fr,.int x.to]:=_root_.id rfl
@[simp] theorem aGP (x:Halt):D.agg [.int x.order,.int x.fr,.int x.to]=qg x:=_root_.id rfl
@[simp] theorem aCP (x:Halt):(qg x).c 0=.int x.order:=_root_.id rfl
@[simp] theorem aCQ (x:Halt):(qg x).c 1=.int x.fr:=_root_.id rfl
@[simp] theorem aCR (x:Halt):(qg x).c 2=.int x.to:=_root_.id rfl
def halts (l:List Halt):D:=.list (l.map qg)
@[simp] theorem aFR (l:List Halt):(halts l).l=l.map qg:=_root_.id rfl
abbrev U1:Ty:=.agg [.int .i64,.int .i64,.int .i64]
def Halt.OK (x:Halt):Prop:=aX x.order∧aX x.fr∧aX x.to
theorem aqE {d:D}(h:DTy U1 d):∃x:Halt,d=qg x∧x.OK:=by
 obtain⟨ds,rfl,hs⟩:=h.agg_inv;obtain⟨d0,ds,rfl,h0,hs⟩:=hs.cons_inv;obtain⟨d1,ds,rfl,h1,hs⟩:=hs.cons_inv;obtain⟨d2,ds,rfl,h2,hs⟩:=hs.cons_inv;obtain rfl:=hs.nil_inv;obtain⟨n0,rfl,b0⟩:=h0.i64_inv;obtain⟨n1,rfl,b1⟩:=h1.i64_inv;obtain⟨n2,rfl,b2⟩:=h2.i64_inv;exact⟨⟨n0,n1,n2⟩,rfl,⟨b0,b1,b2⟩⟩
theorem aqF {d:D}(h:DTy (.slice U1) d):∃l:List Halt,d=halts l∧l.length≤maxLen∧∀y,y∈l→Halt.OK y:=by
 obtain⟨xs,rfl,hm,hx⟩:=h.slice_inv;obtain⟨l,rfl,hl⟩:=jq (enc:=qg) (P:=Halt.OK) fun x hh=>aqE (hx x hh);exact⟨l,rfl,by simpa using hm,hl⟩
structure Choice where
 ask:Int
 by_:Int
 whole:Bool
 deriving DecidableEq,Inhabited
def rp (x:Choice):D:=.agg [.int x.ask,.int x.by_,.bool x.whole]
@[simp] theorem aB0 (x:Choice):(rp x).cells=[.int x.ask,.int x.by_,.bool x.whole]:=_root_.id rfl
@[simp] theorem aGI (x:Choice):D.agg [.int x.ask,.int x.by_,.bool x.whole]=rp x:=_root_.id rfl
@[simp] theorem aBY (x:Choice):(rp x).c 0=.int x.ask:=_root_.id rfl
@[simp] theorem aBZ (x:Choice):(rp x).c 1=.int x.by_:=_root_.id rfl
def choices (l:List Choice):D:=.list (l.map rp)
@[simp] theorem aEo (l:List Choice):(choices l).l=l.map rp:=_root_.id rfl
abbrev UW:Ty:=.agg [.int .i64,.int .i64,.bool]
def Choice.OK (x:Choice):Prop:=aX x.ask∧aX x.by_
theorem alH {d:D}(h:DTy UW d):∃x:Choice,d=rp x∧x.OK:=by
 obtain⟨ds,rfl,hs⟩:=h.agg_inv;obtain⟨d0,ds,rfl,h0,hs⟩:=hs.cons_inv;obtain⟨d1,ds,rfl,h1,hs⟩:=hs.cons_inv;obtain⟨d2,ds,rfl,h2,hs⟩:=hs.cons_inv;obtain rfl:=hs.nil_inv;obtain⟨n0,rfl,b0⟩:=h0.i64_inv;obtain⟨n1,rfl,b1⟩:=h1.i64_inv;obtain⟨n2,rfl⟩:=h2.bool_inv;exact⟨⟨n0,n1,n2⟩,rfl,⟨b0,b1⟩⟩
theorem alI {d:D}(h:DTy (.slice UW) d):∃l:List Choice,d=choices l∧l.length≤maxLen∧∀y,y∈l→Choice.OK y:=by
 obtain⟨xs,rfl,hm,hx⟩:=h.slice_inv;obtain⟨l,rfl,hl⟩:=jq (enc:=rp) (P:=Choice.OK) fun x hh=>alH (hx x hh);exact⟨l,rfl,by simpa using hm,hl⟩
structure Rule where
 ask:Int
 term:Tm
 deriving Inhabited
def qh (x:Rule):D:=.agg [.int x.ask,.int x.term.op,.int x.term.n,.list (x.term.args.map dt)]
@[simp] theorem aDj (x:Rule):(qh x).cells=[.int x.ask,.int x.term.op,.int x.term.n,.list (x.term.args.map dt)]:=_root_.id rfl
@[simp] theorem aGU (x:Rule):D.agg [.int x.ask,.int x.term.op,.int x.term.n,.list (x.term.args.map dt)]=qh x:=_root_.id rfl
@[simp] theorem aDi (x:Rule):(qh x).c 0=.int x.ask:=_root_.id rfl
def rules (l:List Rule):D:=.list (l.map qh)
@[simp] theorem aHH (l:List Rule):(rules l).l=l.map qh:=_root_.id rfl
abbrev U4:Ty:=.agg [.int .i64,.int .i64,.int .i64,.slice .trm]
def Rule.OK (x:Rule):Prop:=aX x.ask∧Tm.OK x.term
theorem axM {d:D}(h:DTy U4 d):∃x:Rule,d=qh x∧x.OK:=by
 obtain⟨ds,rfl,hs⟩:=h.agg_inv;obtain⟨d0,ds,rfl,h0,hs⟩:=hs.cons_inv;obtain⟨d1,ds,rfl,h1,hs⟩:=hs.cons_inv;obtain⟨d2,ds,rfl,h2,hs⟩:=hs.cons_inv;obtain⟨d3,ds,rfl,h3,hs⟩:=hs.cons_inv;obtain rfl:=hs.nil_inv;obtain⟨n0,rfl,b0⟩:=h0.i64_inv;obtain⟨n1,rfl,b1⟩:=h1.i64_inv;obtain⟨n2,rfl,b2⟩:=h2.i64_inv;obtain⟨n3,rfl,b3,c3⟩:=h3.trms_inv;exact⟨⟨n0,.mk n1 n2 n3⟩,rfl,⟨b0,.mk _ _ _ b1 b2 b3 c3⟩⟩
theorem axN {d:D}(h:DTy (.slice U4) d):∃l:List Rule,d=rules l∧l.length≤maxLen∧∀y,y∈l→Rule.OK y:=by
 obtain⟨xs,rfl,hm,hx⟩:=h.slice_inv;obtain⟨l,rfl,hl⟩:=jq (enc:=qh) (P:=Rule.OK) fun x hh=>axM (hx x hh);exact⟨l,rfl,by simpa using hm,hl⟩
structure Order where
 name:ByteArray
 accepts:Bool
 choices:List Choice
 rules:List Rule
 deriving Inhabited
def ix (x:Order):D:=.agg [str x.name,.bool x.accepts,choices x.choices,rules x.rules]
@[simp] theorem aC2 (x:Order):(ix x).cells=[str x.name,.bool x.accepts,choices x.choices,rules x.rules]:=_root_.id rfl
@[simp] theorem aGR (x:Order):D.agg [str x.name,.bool x.accepts,choices x.choices,rules x.rules]=ix x:=_root_.id rfl
@[simp] theorem aD0 (x:Order):iu 4 (ix x)=ix x:=_root_.id rfl
@[simp] theorem aCY (x:Order):(ix x).c 0=str x.name:=_root_.id rfl
@[simp] theorem aCZ (x:Order):(ix x).c 1=.bool x.accepts:=_root_.id rfl
@[simp] theorem aC0 (x:Order):(ix x).c 2=choices x.choices:=_root_.id rfl
@[simp] theorem aC1 (x:Order):(ix x).c 3=rules x.rules:=_root_.id rfl
def orders (l:List Order):D:=.list (l.map ix)
@[simp] theorem aHb (l:List Order):(orders l).l=l.map ix:=_root_.id rfl
abbrev U2:Ty:=.agg [.str,.bool,.slice UW,.slice U4]
def Order.OK (x:Order):Prop:=(x.choices.length≤maxLen∧∀y,y∈x.choices→Choice.OK y)∧(x.rules.length≤maxLen∧∀y,y∈x.rules→Rule.OK y)
theorem awe {d:D}(h:DTy U2 d):∃x:Order,d=ix x∧x.OK:=by
 obtain⟨ds,rfl,hs⟩:=h.agg_inv;obtain⟨d0,ds,rfl,h0,hs⟩:=hs.cons_inv;obtain⟨d1,ds,rfl,h1,hs⟩:=hs.cons_inv;obtain⟨d2,ds,rfl,h2,hs⟩:=hs.cons_inv;obtain⟨d3,ds,rfl,h3,hs⟩:=hs.cons_inv;obtain rfl:=hs.nil_inv;obtain⟨n0,rfl⟩:=str_inv h0;obtain⟨n1,rfl⟩:=h1.bool_inv;obtain⟨n2,rfl,b2,c2⟩:=alI h2;obtain⟨n3,rfl,b3,c3⟩:=axN h3;exact⟨⟨n0,n1,n2,n3⟩,rfl,⟨⟨b2,c2⟩,⟨b3,c3⟩⟩⟩
theorem awf {d:D}(h:DTy (.slice U2) d):∃l:List Order,d=orders l∧l.length≤maxLen∧∀y,y∈l→Order.OK y:=by
 obtain⟨xs,rfl,hm,hx⟩:=h.slice_inv;obtain⟨l,rfl,hl⟩:=jq (enc:=ix) (P:=Order.OK) fun x hh=>awe (hx x hh);exact⟨l,rfl,by simpa using hm,hl⟩
structure Realm where
 currencies:List ByteArray
 cities:List City
 groups:List Group
 firms:List Firm
 orders:List Order
 usances:List Usance
 rates:List Rate
 halts:List Halt
 deriving Inhabited
def aZ (x:Realm):D:=.agg [strs x.currencies,kH x.cities,groups x.groups,firms x.firms,orders x.orders,usances x.usances,rates x.rates,halts x.halts]
@[simp] theorem aDh (x:Realm):(aZ x).cells=[strs x.currencies,kH x.cities,groups x.groups,firms x.firms,orders x.orders,usances x.usances,rates x.rates,halts x.halts]:=_root_.id rfl
@[simp] theorem aGT (x:Realm):D.agg [strs x.currencies,kH x.cities,groups x.groups,firms x.firms,orders x.orders,usances x.usances,rates x.rates,halts x.halts]=aZ x:=_root_.id rfl
@[simp] theorem aD1 (x:Realm):iu 8 (aZ x)=aZ x:=_root_.id rfl
@[simp] theorem aHi (x:Realm)(a0 a1 a2 a3 a4 a5 a6 a7:D):D.agg (cM [a0,a1,a2,a3,a4,a5,a6,a7] 0 [strs x.currencies,kH x.cities,groups x.groups,firms x.firms,orders x.orders,usances x.usances,rates x.rates,halts x.halts])=aZ x:=_root_.id rfl
@[simp] theorem aC9 (x:Realm):(aZ x).c 0=strs x.currencies:=_root_.id rfl
@[simp] theorem aDa (x:Realm):(aZ x).c 1=kH x.cities:=_root_.id rfl
@[simp] theorem aDb (x:Realm):(aZ x).c 2=groups x.groups:=_root_.id rfl
@[simp] theorem aDc (x:Realm):(aZ x).c 3=firms x.firms:=_root_.id rfl
@[simp] theorem aDd (x:Realm):(aZ x).c 4=orders x.orders:=_root_.id rfl
@[simp] theorem aDe (x:Realm):(aZ x).c 5=usances x.usances:=_root_.id rfl
@[simp] theorem aDf (x:Realm):(aZ x).c 6=rates x.rates:=_root_.id rfl
@[simp] theorem aDg (x:Realm):(aZ x).c 7=halts x.halts:=_root_.id rfl
abbrev aAJ:Ty:=.agg [.slice .str,.slice UX,.slice U0,.slice UZ,.slice U2,.slice U6,.slice U3,.slice U1]
def Realm.OK (x:Realm):Prop:=x.currencies.length≤maxLen∧(x.cities.length≤maxLen∧∀y,y∈x.cities→City.OK y)∧(x.groups.length≤maxLen∧∀y,y∈x.groups→Group.OK y)∧(x.firms.length≤maxLen∧∀y,y∈x.firms→Firm.OK y)∧(x.orders.length≤maxLen∧∀y,y∈x.orders→Order.OK y)∧(x.usances.length≤maxLen∧∀y,y∈x.usances→Usance.OK y)∧(x.rates.length≤maxLen∧∀y,y∈x.rates→Rate.OK y)∧(x.halts.length≤maxLen∧∀y,y∈x.halts→Halt.OK y)
theorem axo {d:D}(h:DTy aAJ d):∃x:Realm,d=aZ x∧x.OK:=by
 obtain⟨ds,rfl,hs⟩:=h.agg_inv;obtain⟨d0,ds,rfl,h0,hs⟩:=hs.cons_inv;obtain⟨d1,ds,rfl,h1,hs⟩:=hs.cons_inv;obtain⟨d2,ds,rfl,h2,hs⟩:=hs.cons_inv;obtain⟨d3,ds,rfl,h3,hs⟩:=hs.cons_inv;obtain⟨d4,ds,rfl,h4,hs⟩:=hs.cons_inv;obtain⟨d5,ds,rfl,h5,hs⟩:=hs.cons_inv;obtain⟨d6,ds,rfl,h6,hs⟩:=hs.cons_inv;obtain⟨d7,ds,rfl,h7,hs⟩:=hs.cons_inv;obtain rfl:=hs.nil_inv;obtain⟨n0,rfl,b0⟩:=ayc h0;obtain⟨n1,rfl,b1,c1⟩:=alL h1;obtain⟨n2,rfl,b2,c2⟩:=aqf h2;obtain⟨n3,rfl,b3,c3⟩:=anu h3;obtain⟨n4,rfl,b4,c4⟩:=awf h4;obtain⟨n5,rfl,b5,c5⟩:=aAR h5;obtain⟨n6,rfl,b6,c6⟩:=axf h6;obtain⟨n7,rfl,b7,c7⟩:=aqF h7;exact⟨⟨n0,n1,n2,n3,n4,n5,n6,n7⟩,rfl,⟨b0,⟨b1,c1⟩,⟨b2,c2⟩,⟨b3,c3⟩,⟨b4,c4⟩,⟨b5,c5⟩,⟨b6,c6⟩,⟨b7,c7⟩⟩⟩
structure Tenor where
 kind:Int
 n:Int
 unit:Int
 deriving DecidableEq,Inhabited
def mz (x:Tenor):D:=.agg [.int x.kind,.int x.n,.int x.unit]
@[simp] theorem aDH (x:Tenor):(mz x).cells=[.int x.kind,.int x.n,.int x.unit]:=_root_.id rfl
@[simp] theorem aGY (x:Tenor):D.agg [.int x.kind,.int x.n,.int x.unit]=mz x:=_root_.id rfl
@[simp] theorem aDE (x:Tenor):(mz x).c 0=.int x.kind:=_root_.id rfl
@[simp] theorem aDF (x:Tenor):(mz x).c 1=.int x.n:=_root_.id rfl
@[simp] theorem aDG (x:Tenor):(mz x).c 2=.int x.unit:=_root_.id rfl
def Tenor.OK (x:Tenor):Prop:=aX x.kind∧aX x.n∧aX x.unit
structure Bill where
 drawer:Int
 drawee:Int
 payee:Int
 sum:Int
 currency:Int
 tenor:Tenor
 day:Int
 city:Int
 pay:Int
 need:Int
 rate:Int
 flags:Int
 parts:Int
 deriving DecidableEq,Inhabited
def dg (x:Bill):D:=.agg [.int x.drawer,.int x.drawee,.int x.payee,.int x.sum,.int x.currency,.int x.tenor.kind,.int x.tenor.n,.int x.tenor.unit,.int x.day,.int x.city,.int x.pay,.int x.need,.int x.rate,.int x.flags,.int x.parts]
@[simp] theorem aBL (x:Bill):(dg x).cells=[.int x.drawer,.int x.drawee,.int x.payee,.int x.sum,.int x.currency,.int x.tenor.kind,.int x.tenor.n,.int x.tenor.unit,.int x.day,.int x.city,.int x.pay,.int x.need,.int x.rate,.int x.flags,.int x.parts]:=_root_.id rfl
@[simp] theorem aGF (x:Bill):D.agg [.int x.drawer,.int x.drawee,.int x.payee,.int x.sum,.int x.currency,.int x.tenor.kind,.int x.tenor.n,.int x.tenor.unit,.int x.day,.int x.city,.int x.pay,.int x.need,.int x.rate,.int x.flags,.int x.parts]=dg x:=_root_.id rfl
@[simp] theorem aDW (x:Bill):iu 15 (dg x)=dg x:=_root_.id rfl
@[simp] theorem aHc (x:Bill)(a0 a1 a2 a3 a4 a5 a6 a7 a8 a9 jZ j0 j3 j4 j5:D):D.agg (cM [a0,a1,a2,a3,a4,a5,a6,a7,a8,a9,jZ,j0,j3,j4,j5] 0 [.int x.drawer,.int x.drawee,.int x.payee,.int x.sum,.int x.currency,.int x.tenor.kind,.int x.tenor.n,.int x.tenor.unit,.int x.day,.int x.city,.int x.pay,.int x.need,.int x.rate,.int x.flags,.int x.parts])=dg x:=_root_.id rfl
@[simp] theorem aBw (x:Bill):(dg x).c 0=.int x.drawer:=_root_.id rfl
@[simp] theorem aBx (x:Bill):(dg x).c 1=.int x.drawee:=_root_.id rfl
@[simp] theorem aBD (x:Bill):(dg x).c 2=.int x.payee:=_root_.id rfl
@[simp] theorem aBE (x:Bill):(dg x).c 3=.int x.sum:=_root_.id rfl
@[simp] theorem aBF (x:Bill):(dg x).c 4=.int x.currency:=_root_.id rfl
@[simp] theorem aBG (x:Bill):(dg x).c 5=.int x.tenor.kind:=_root_.id rfl
@[simp] theorem aBH (x:Bill):(dg x).c 6=.int x.tenor.n:=_root_.id rfl
@[simp] theorem aBI (x:Bill):(dg x).c 7=.int x.tenor.unit:=_root_.id rfl
@[simp] theorem aBJ (x:Bill):(dg x).c 8=.int x.day:=_root_.id rfl
@[simp] theorem aBK (x:Bill):(dg x).c 9=.int x.city:=_root_.id rfl
@[simp] theorem aBy (x:Bill):(dg x).c 10=.int x.pay:=_root_.id rfl
@[simp] theorem aBz (x:Bill):(dg x).c 11=.int x.need:=_root_.id rfl
@[simp] theorem aBA (x:Bill):(dg x).c 12=.int x.rate:=_root_.id rfl
@[simp] theorem aBB (x:Bill):(dg x).c 13=.int x.flags:=_root_.id rfl
@[simp] theorem aBC (x:Bill):(dg x).c 14=.int x.parts:=_root_.id rfl
def Bill.OK (x:Bill):Prop:=aX x.drawer∧aX x.drawee∧aX x.payee∧aX x.sum∧aX x.currency∧Tenor.OK x.tenor∧aX x.day∧aX x.city∧aX x.pay∧aX x.need∧aX x.rate∧aX x.flags∧aX x.parts
structure Sign where
 kind:Int
 part:Int
 who:Int
 for_:Int
 to:Int
 sum:Int
 day:Int
 city:Int
 flags:Int
 deriving DecidableEq,Inhabited
def ja (x:Sign):D:=.agg [.int x.kind,.int x.part,.int x.who,.int x.for_,.int x.to,.int x.sum,.int x.day,.int x.city,.int x.flags]
@[simp] theorem aDy (x:Sign):(ja x).cells=[.int x.kind,.int x.part,.int x.who,.int x.for_,.int x.to,.int x.sum,.int x.day,.int x.city,.int x.flags]:=_root_.id rfl
@[simp] theorem aGX (x:Sign):D.agg [.int x.kind,.int x.part,.int x.who,.int x.for_,.int x.to,.int x.sum,.int x.day,.int x.city,.int x.flags]=ja x:=_root_.id rfl
@[simp] theorem aD3 (x:Sign):iu 9 (ja x)=ja x:=_root_.id rfl
@[simp] theorem aDp (x:Sign):(ja x).c 0=.int x.kind:=_root_.id rfl
@[simp] theorem aDq (x:Sign):(ja x).c 1=.int x.part:=_root_.id rfl
@[simp] theorem aDr (x:Sign):(ja x).c 2=.int x.who:=_root_.id rfl
@[simp] theorem aDs (x:Sign):(ja x).c 3=.int x.for_:=_root_.id rfl
@[simp] theorem aDt (x:Sign):(ja x).c 4=.int x.to:=_root_.id rfl
@[simp] theorem aDu (x:Sign):(ja x).c 5=.int x.sum:=_root_.id rfl
@[simp] theorem aDv (x:Sign):(ja x).c 6=.int x.day:=_root_.id rfl
@[simp] theorem aDw (x:Sign):(ja x).c 7=.int x.city:=_root_.id rfl
@[simp] theorem aDx (x:Sign):(ja x).c 8=.int x.flags:=_root_.id rfl
def signs (l:List Sign):D:=.list (l.map ja)
@[simp] theorem aHS (l:List Sign):(signs l).l=l.map ja:=_root_.id rfl
@[simp] theorem aHR (l:List Sign):(signs l).cells=[signs l]:=_root_.id rfl
abbrev U5:Ty:=.agg [.int .i64,.int .i64,.int .i64,.int .i64,.int .i64,.int .i64,.int .i64,.int .i64,.int .i64]
def Sign.OK (x:Sign):Prop:=aX x.kind∧aX x.part∧aX x.who∧aX x.for_∧aX x.to∧aX x.sum∧aX x.day∧aX x.city∧aX x.flags
theorem ax6 {d:D}(h:DTy U5 d):∃x:Sign,d=ja x∧x.OK:=by
 obtain⟨ds,rfl,hs⟩:=h.agg_inv;obtain⟨d0,ds,rfl,h0,hs⟩:=hs.cons_inv;obtain⟨d1,ds,rfl,h1,hs⟩:=hs.cons_inv;obtain⟨d2,ds,rfl,h2,hs⟩:=hs.cons_inv;obtain⟨d3,ds,rfl,h3,hs⟩:=hs.cons_inv;obtain⟨d4,ds,rfl,h4,hs⟩:=hs.cons_inv;obtain⟨d5,ds,rfl,h5,hs⟩:=hs.cons_inv;obtain⟨d6,ds,rfl,h6,hs⟩:=hs.cons_inv;obtain⟨d7,ds,rfl,h7,hs⟩:=hs.cons_inv;obtain⟨d8,ds,rfl,h8,hs⟩:=hs.cons_inv;obtain rfl:=hs.nil_inv;obtain⟨n0,rfl,b0⟩:=h0.i64_inv;obtain⟨n1,rfl,b1⟩:=h1.i64_inv;obtain⟨n2,rfl,b2⟩:=h2.i64_inv;obtain⟨n3,rfl,b3⟩:=h3.i64_inv;obtain⟨n4,rfl,b4⟩:=h4.i64_inv;obtain⟨n5,rfl,b5⟩:=h5.i64_inv;obtain⟨n6,rfl,b6⟩:=h6.i64_inv;obtain⟨n7,rfl,b7⟩:=h7.i64_inv;obtain⟨n8,rfl,b8⟩:=h8.i64_inv;exact⟨⟨n0,n1,n2,n3,n4,n5,n6,n7,n8⟩,rfl,⟨b0,b1,b2,b3,b4,b5,b6,b7,b8⟩⟩
theorem ax7 {d:D}(h:DTy (.slice U5) d):∃l:List Sign,d=signs l∧l.length≤maxLen∧∀y,y∈l→Sign.OK y:=by
 obtain⟨xs,rfl,hm,hx⟩:=h.slice_inv;obtain⟨l,rfl,hl⟩:=jq (enc:=ja) (P:=Sign.OK) fun x hh=>ax6 (hx x hh);exact⟨l,rfl,by simpa using hm,hl⟩
structure Alter where
 at_:Int
 sum:Int
 deriving DecidableEq,Inhabited
def nA (x:Alter):D:=.agg [.int x.at_,.int x.sum]
@[simp] theorem aBv (x:Alter):(nA x).cells=[.int x.at_,.int x.sum]:=_root_.id rfl
@[simp] theorem aGE (x:Alter):D.agg [.int x.at_,.int x.sum]=nA x:=_root_.id rfl
@[simp] theorem aBt (x:Alter):(nA x).c 0=.int x.at_:=_root_.id rfl
@[simp] theorem aBu (x:Alter):(nA x).c 1=.int x.sum:=_root_.id rfl
def alters (l:List Alter):D:=.list (l.map nA)
@[simp] theorem aD6 (l:List Alter):(alters l).l=l.map nA:=_root_.id rfl
@[simp] theorem aD5 (l:List Alter):(alters l).cells=[alters l]:=_root_.id rfl
abbrev UU:Ty:=.agg [.int .i64,.int .i64]
def Alter.OK (x:Alter):Prop:=aX x.at_∧aX x.sum
theorem agi {d:D}(h:DTy UU d):∃x:Alter,d=nA x∧x.OK:=by
 obtain⟨ds,rfl,hs⟩:=h.agg_inv;obtain⟨d0,ds,rfl,h0,hs⟩:=hs.cons_inv;obtain⟨d1,ds,rfl,h1,hs⟩:=hs.cons_inv;obtain rfl:=hs.nil_inv;obtain⟨n0,rfl,b0⟩:=h0.i64_inv;obtain⟨n1,rfl,b1⟩:=h1.i64_inv;exact⟨⟨n0,n1⟩,rfl,⟨b0,b1⟩⟩
theorem agj {d:D}(h:DTy (.slice UU) d):∃l:List Alter,d=alters l∧l.length≤maxLen∧∀y,y∈l→Alter.OK y:=by
 obtain⟨xs,rfl,hm,hx⟩:=h.slice_inv;obtain⟨l,rfl,hl⟩:=jq (enc:=nA) (P:=Alter.OK) fun x hh=>agi (hx x hh);exact⟨l,rfl,by simpa using hm,hl⟩
structure Act where
 kind:Int
 who:Int
 to:Int
 part:Int
 at_:Int
 sum:Int
 day:Int
 city:Int
 form:Int
 deriving DecidableEq,Inhabited
def iw (x:Act):D:=.agg [.int x.kind,.int x.who,.int x.to,.int x.part,.int x.at_,.int x.sum,.int x.day,.int x.city,.int x.form]
@[simp] theorem aBs (x:Act):(iw x).cells=[.int x.kind,.int x.who,.int x.to,.int x.part,.int x.at_,.int x.sum,.int x.day,.int x.city,.int x.form]:=_root_.id rfl
@[simp] theorem aGD (x:Act):D.agg [.int x.kind,.int x.who,.int x.to,.int x.part,.int x.at_,.int x.sum,.int x.day,.int x.city,.int x.form]=iw x:=_root_.id rfl
@[simp] theorem aDV (x:Act):iu 9 (iw x)=iw x:=_root_.id rfl
@[simp] theorem aBj (x:Act):(iw x).c 0=.int x.kind:=_root_.id rfl
@[simp] theorem aBk (x:Act):(iw x).c 1=.int x.who:=_root_.id rfl
@[simp] theorem aBl (x:Act):(iw x).c 2=.int x.to:=_root_.id rfl
@[simp] theorem aBm (x:Act):(iw x).c 3=.int x.part:=_root_.id rfl
@[simp] theorem aBn (x:Act):(iw x).c 4=.int x.at_:=_root_.id rfl
@[simp] theorem aBo (x:Act):(iw x).c 5=.int x.sum:=_root_.id rfl
@[simp] theorem aBp (x:Act):(iw x).c 6=.int x.day:=_root_.id rfl
@[simp] theorem aBq (x:Act):(iw x).c 7=.int x.city:=_root_.id rfl
@[simp] theorem aBr (x:Act):(iw x).c 8=.int x.form:=_root_.id rfl
def acts (l:List Act):D:=.list (l.map iw)
@[simp] theorem aDO (l:List Act):(acts l).l=l.map iw:=_root_.id rfl
@[simp] theorem aDN (l:List Act):(acts l).cells=[acts l]:=_root_.id rfl
abbrev UT:Ty:=.agg [.int .i64,.int .i64,.int .i64,.int .i64,.int .i64,.int .i64,.int .i64,.int .i64,.int .i64]
def Act.OK (x:Act):Prop:=aX x.kind∧aX x.who∧aX x.to∧aX x.part∧aX x.at_∧aX x.sum∧aX x.day∧aX x.city∧aX x.form
theorem af9 {d:D}(h:DTy UT d):∃x:Act,d=iw x∧x.OK:=by
 obtain⟨ds,rfl,hs⟩:=h.agg_inv;obtain⟨d0,ds,rfl,h0,hs⟩:=hs.cons_inv;obtain⟨d1,ds,rfl,h1,hs⟩:=hs.cons_inv;obtain⟨d2,ds,rfl,h2,hs⟩:=hs.cons_inv;obtain⟨d3,ds,rfl,h3,hs⟩:=hs.cons_inv;obtain⟨d4,ds,rfl,h4,hs⟩:=hs.cons_inv;obtain⟨d5,ds,rfl,h5,hs⟩:=hs.cons_inv;obtain⟨d6,ds,rfl,h6,hs⟩:=hs.cons_inv;obtain⟨d7,ds,rfl,h7,hs⟩:=hs.cons_inv;obtain⟨d8,ds,rfl,h8,hs⟩:=hs.cons_inv;obtain rfl:=hs.nil_inv;obtain⟨n0,rfl,b0⟩:=h0.i64_inv;obtain⟨n1,rfl,b1⟩:=h1.i64_inv;obtain⟨n2,rfl,b2⟩:=h2.i64_inv;obtain⟨n3,rfl,b3⟩:=h3.i64_inv;obtain⟨n4,rfl,b4⟩:=h4.i64_inv;obtain⟨n5,rfl,b5⟩:=h5.i64_inv;obtain⟨n6,rfl,b6⟩:=h6.i64_inv;obtain⟨n7,rfl,b7⟩:=h7.i64_inv;obtain⟨n8,rfl,b8⟩:=h8.i64_inv;exact⟨⟨n0,n1,n2,n3,n4,n5,n6,n7,n8⟩,rfl,⟨b0,b1,b2,b3,b4,b5,b6,b7,b8⟩⟩
theorem aga {d:D}(h:DTy (.slice UT) d):∃l:List Act,d=acts l∧l.length≤maxLen∧∀y,y∈l→Act.OK y:=by
 obtain⟨xs,rfl,hm,hx⟩:=h.slice_inv;obtain⟨l,rfl,hl⟩:=jq (enc:=iw) (P:=Act.OK) fun x hh=>af9 (hx x hh);exact⟨l,rfl,by simpa using hm,hl⟩
structure Fact where
 kind:Int
 at_:Int
 n:Int
 deriving DecidableEq,Inhabited
def qe (x:Fact):D:=.agg [.int x.kind,.int x.at_,.int x.n]
@[simp] theorem aCA (x:Fact):(qe x).cells=[.int x.kind,.int x.at_,.int x.n]:=_root_.id rfl
@[simp] theorem aGL (x:Fact):D.agg [.int x.kind,.int x.at_,.int x.n]=qe x:=_root_.id rfl
@[simp] theorem aCx (x:Fact):(qe x).c 0=.int x.kind:=_root_.id rfl
@[simp] theorem aCy (x:Fact):(qe x).c 1=.int x.at_:=_root_.id rfl
@[simp] theorem aCz (x:Fact):(qe x).c 2=.int x.n:=_root_.id rfl
def facts (l:List Fact):D:=.list (l.map qe)
@[simp] theorem aFz (l:List Fact):(facts l).l=l.map qe:=_root_.id rfl
@[simp] theorem aFy (l:List Fact):(facts l).cells=[facts l]:=_root_.id rfl
abbrev UY:Ty:=.agg [.int .i64,.int .i64,.int .i64]
def Fact.OK (x:Fact):Prop:=aX x.kind∧aX x.at_∧aX x.n
theorem anl {d:D}(h:DTy UY d):∃x:Fact,d=qe x∧x.OK:=by
 obtain⟨ds,rfl,hs⟩:=h.agg_inv;obtain⟨d0,ds,rfl,h0,hs⟩:=hs.cons_inv;obtain⟨d1,ds,rfl,h1,hs⟩:=hs.cons_inv;obtain⟨d2,ds,rfl,h2,hs⟩:=hs.cons_inv;obtain rfl:=hs.nil_inv;obtain⟨n0,rfl,b0⟩:=h0.i64_inv;obtain⟨n1,rfl,b1⟩:=h1.i64_inv;obtain⟨n2,rfl,b2⟩:=h2.i64_inv;exact⟨⟨n0,n1,n2⟩,rfl,⟨b0,b1,b2⟩⟩
theorem anm {d:D}(h:DTy (.slice UY) d):∃l:List Fact,d=facts l∧l.length≤maxLen∧∀y,y∈l→Fact.OK y:=by
 obtain⟨xs,rfl,hm,hx⟩:=h.slice_inv;obtain⟨l,rfl,hl⟩:=jq (enc:=qe) (P:=Fact.OK) fun x hh=>anl (hx x hh);exact⟨l,rfl,by simpa using hm,hl⟩
structure File where
 bill:Bill
 signs:List Sign
 alters:List Alter
 acts:List Act
 facts:List Fact
 deriving Inhabited
def cD (x:File):D:=.agg [.int x.bill.drawer,.int x.bill.drawee,.int x.bill.payee,.int x.bill.sum,.int x.bill.currency,.int x.bill.tenor.kind,.int x.bill.tenor.n,.int x.bill.tenor.unit,.int x.bill.day,.int x.bill.city,.int x.bill.pay,.int x.bill.need,.int x.bill.rate,.int x.bill.flags,.int x.bill.parts,signs x.signs,alters x.alters,acts x.acts,facts x.facts]
@[simp] theorem aCI (x:File):(cD x).cells=[.int x.bill.drawer,.int x.bill.drawee,.int x.bill.payee,.int x.bill.sum,.int x.bill.currency,.int x.bill.tenor.kind,.int x.bill.tenor.n,.int x.bill.tenor.unit,.int x.bill.day,.int x.bill.city,.int x.bill.pay,.int x.bill.need,.int x.bill.rate,.int x.bill.flags,.int x.bill.parts,signs x.signs,alters x.alters,acts x.acts,facts x.facts]:=_root_.id rfl
@[simp] theorem aGM (x:File):D.agg [.int x.bill.drawer,.int x.bill.drawee,.int x.bill.payee,.int x.bill.sum,.int x.bill.currency,.int x.bill.tenor.kind,.int x.bill.tenor.n,.int x.bill.tenor.unit,.int x.bill.day,.int x.bill.city,.int x.bill.pay,.int x.bill.need,.int x.bill.rate,.int x.bill.flags,.int x.bill.parts,signs x.signs,alters x.alters,acts x.acts,facts x.facts]=cD x:=_root_.id rfl
@[simp] theorem aDZ (x:File):iu 19 (cD x)=cD x:=_root_.id rfl
@[simp] theorem aHg (x:File)(a0 a1 a2 a3 a4 a5 a6 a7 a8 a9 jZ j0 j3 j4 j5 lx ly lz lC:D):D.agg (cM [a0,a1,a2,a3,a4,a5,a6,a7,a8,a9,jZ,j0,j3,j4,j5,lx,ly,lz,lC] 0 [.int x.bill.drawer,.int x.bill.drawee,.int x.bill.payee,.int x.bill.sum,.int x.bill.currency,.int x.bill.tenor.kind,.int x.bill.tenor.n,.int x.bill.tenor.unit,.int x.bill.day,.int x.bill.city,.int x.bill.pay,.int x.bill.need,.int x.bill.rate,.int x.bill.flags,.int x.bill.parts,signs x.signs,alters x.alters,acts x.acts,facts x.facts])=cD x:=_root_.id rfl
@[simp] theorem aCG (x:File):(cD x).c 5=.int x.bill.tenor.kind:=_root_.id rfl
@[simp] theorem aCH (x:File):(cD x).c 8=.int x.bill.day:=_root_.id rfl
@[simp] theorem aCB (x:File):(cD x).c 14=.int x.bill.parts:=_root_.id rfl
@[simp] theorem aCC (x:File):(cD x).c 15=signs x.signs:=_root_.id rfl
@[simp] theorem aCD (x:File):(cD x).c 16=alters x.alters:=_root_.id rfl
@[simp] theorem aCE (x:File):(cD x).c 17=acts x.acts:=_root_.id rfl
@[simp] theorem aCF (x:File):(cD x).c 18=facts x.facts:=_root_.id rfl
abbrev aAI:Ty:=.agg [.int .i64,.int .i64,.int .i64,.int .i64,.int .i64,.int .i64,.int .i64,.int .i64,.int .i64,.int .i64,.int .i64,.int .i64,.int .i64,.int .i64,.int .i64,.slice U5,.slice UU,.slice UT,.slice UY]
def File.OK (x:File):Prop:=Bill.OK x.bill∧(x.signs.length≤maxLen∧∀y,y∈x.signs→Sign.OK y)∧(x.alters.length≤maxLen∧∀y,y∈x.alters→Alter.OK y)∧(x.acts.length≤maxLen∧∀y,y∈x.acts→Act.OK y)∧(x.facts.length≤maxLen∧∀y,y∈x.facts→Fact.OK y)
theorem ano {d:D}(h:DTy aAI d):∃x:File,d=cD x∧x.OK:=by
 obtain⟨ds,rfl,hs⟩:=h.agg_inv;obtain⟨d0,ds,rfl,h0,hs⟩:=hs.cons_inv;obtain⟨d1,ds,rfl,h1,hs⟩:=hs.cons_inv;obtain⟨d2,ds,rfl,h2,hs⟩:=hs.cons_inv;obtain⟨d3,ds,rfl,h3,hs⟩:=hs.cons_inv;obtain⟨d4,ds,rfl,h4,hs⟩:=hs.cons_inv;obtain⟨d5,ds,rfl,h5,hs⟩:=hs.cons_inv;obtain⟨d6,ds,rfl,h6,hs⟩:=hs.cons_inv;obtain⟨d7,ds,rfl,h7,hs⟩:=hs.cons_inv;obtain⟨d8,ds,rfl,h8,hs⟩:=hs.cons_inv;obtain⟨d9,ds,rfl,h9,hs⟩:=hs.cons_inv;obtain⟨d10,ds,rfl,mC,hs⟩:=hs.cons_inv;obtain⟨d11,ds,rfl,qo,hs⟩:=hs.cons_inv;obtain⟨d12,ds,rfl,Nm,hs⟩:=hs.cons_inv;obtain⟨d13,ds,rfl,h13,hs⟩:=hs.cons_inv;obtain⟨d14,ds,rfl,h14,hs⟩:=hs.cons_inv;obtain⟨d15,ds,rfl,F1,hs⟩:=hs.cons_inv;obtain⟨d16,ds,rfl,F2,hs⟩:=hs.cons_inv;obtain⟨d17,ds,rfl,F3,hs⟩:=hs.cons_inv;obtain⟨d18,ds,rfl,F4,hs⟩:=hs.cons_inv;obtain rfl:=hs.nil_inv;obtain⟨n0,rfl,b0⟩:=h0.i64_inv;obtain⟨n1,rfl,b1⟩:=h1.i64_inv;obtain⟨n2,rfl,b2⟩:=h2.i64_inv;obtain⟨n3,rfl,b3⟩:=h3.i64_inv;obtain⟨n4,rfl,b4⟩:=h4.i64_inv;obtain⟨n5,rfl,b5⟩:=h5.i64_inv;obtain⟨n6,rfl,b6⟩:=h6.i64_inv;obtain⟨n7,rfl,b7⟩:=h7.i64_inv;obtain⟨n8,rfl,b8⟩:=h8.i64_inv;obtain⟨n9,rfl,b9⟩:=h9.i64_inv;obtain⟨n10,rfl,b10⟩:=mC.i64_inv;obtain⟨n11,rfl,b11⟩:=qo.i64_inv;obtain⟨n12,rfl,b12⟩:=Nm.i64_inv;obtain⟨n13,rfl,b13⟩:=h13.i64_inv;obtain⟨n14,rfl,b14⟩:=h14.i64_inv;obtain⟨n15,rfl,b15,c15⟩:=ax7 F1;obtain⟨n16,rfl,b16,c16⟩:=agj F2;obtain⟨n17,rfl,b17,c17⟩:=aga F3;obtain⟨n18,rfl,b18,c18⟩:=anm F4;exact⟨⟨⟨n0,n1,n2,n3,n4,⟨n5,n6,n7⟩,n8,n9,n10,n11,n12,n13,n14⟩,n15,n16,n17,n18⟩,rfl,⟨⟨b0,b1,b2,b3,b4,⟨b5,b6,b7⟩,b8,b9,b10,b11,b12,b13,b14⟩,⟨b15,c15⟩,⟨b16,c16⟩,⟨b17,c17⟩,⟨b18,c18⟩⟩⟩
structure Case where
 file:File
 sign:Int
 holder:Int
 defence:Int
 due:Int
 day:Int
 deriving Inhabited
def eO (x:Case):D:=.agg [.int x.file.bill.drawer,.int x.file.bill.drawee,.int x.file.bill.payee,.int x.file.bill.sum,.int x.file.bill.currency,.int x.file.bill.tenor.kind,.int x.file.bill.tenor.n,.int x.file.bill.tenor.unit,.int x.file.bill.day,.int x.file.bill.city,.int x.file.bill.pay,.int x.file.bill.need,.int x.file.bill.rate,.int x.file.bill.flags,.int x.file.bill.parts,signs x.file.signs,alters x.file.alters,acts x.file.acts,facts x.file.facts,.int x.sign,.int x.holder,.int x.defence,.int x.due,.int x.day]
@[simp] theorem aBU (x:Case):(eO x).cells=[.int x.file.bill.drawer,.int x.file.bill.drawee,.int x.file.bill.payee,.int x.file.bill.sum,.int x.file.bill.currency,.int x.file.bill.tenor.kind,.int x.file.bill.tenor.n,.int x.file.bill.tenor.unit,.int x.file.bill.day,.int x.file.bill.city,.int x.file.bill.pay,.int x.file.bill.need,.int x.file.bill.rate,.int x.file.bill.flags,.int x.file.bill.parts,signs x.file.signs,alters x.file.alters,acts x.file.acts,facts x.file.facts,.int x.sign,.int x.holder,.int x.defence,.int x.due,.int x.day]:=_root_.id rfl
@[simp] theorem aGG (x:Case):D.agg [.int x.file.bill.drawer,.int x.file.bill.drawee,.int x.file.bill.payee,.int x.file.bill.sum,.int x.file.bill.currency,.int x.file.bill.tenor.kind,.int x.file.bill.tenor.n,.int x.file.bill.tenor.unit,.int x.file.bill.day,.int x.file.bill.city,.int x.file.bill.pay,.int x.file.bill.need,.int x.file.bill.rate,.int x.file.bill.flags,.int x.file.bill.parts,signs x.file.signs,alters x.file.alters,acts x.file.acts,facts x.file.facts,.int x.sign,.int x.holder,.int x.defence,.int x.due,.int x.day]=eO x:=_root_.id rfl
@[simp] theorem agh (x:Case):iu 24 (eO x)=eO x:=_root_.id rfl
@[simp] theorem awg (x:Case)(a0 a1 a2 a3 a4 a5 a6 a7 a8 a9 jZ j0 j3 j4 j5 lx ly lz lC sY sZ s9 tc td:D):D.agg (cM [a0,a1,a2,a3,a4,a5,a6,a7,a8,a9,jZ,j0,j3,j4,j5,lx,ly,lz,lC,sY,sZ,s9,tc,td] 0 [.int x.file.bill.drawer,.int x.file.bill.drawee,.int x.file.bill.payee,.int x.file.bill.sum,.int x.file.bill.currency,.int x.file.bill.tenor.kind,.int x.file.bill.tenor.n,.int x.file.bill.tenor.unit,.int x.file.bill.day,.int x.file.bill.city,.int x.file.bill.pay,.int x.file.bill.need,.int x.file.bill.rate,.int x.file.bill.flags,.int x.file.bill.parts,signs x.file.signs,alters x.file.alters,acts x.file.acts,facts x.file.facts,.int x.sign,.int x.holder,.int x.defence,.int x.due,.int x.day])=eO x:=_root_.id rfl
@[simp] theorem aBT (x:Case):(eO x).c 9=.int x.file.bill.city:=_root_.id rfl
@[simp] theorem aBM (x:Case):(eO x).c 10=.int x.file.bill.pay:=_root_.id rfl
@[simp] theorem aBN (x:Case):(eO x).c 15=signs x.file.signs:=_root_.id rfl
@[simp] theorem aBO (x:Case):(eO x).c 19=.int x.sign:=_root_.id rfl
@[simp] theorem aBP (x:Case):(eO x).c 20=.int x.holder:=_root_.id rfl
@[simp] theorem aBQ (x:Case):(eO x).c 21=.int x.defence:=_root_.id rfl
@[simp] theorem aBR (x:Case):(eO x).c 22=.int x.due:=_root_.id rfl
@[simp] theorem aBS (x:Case):(eO x).c 23=.int x.day:=_root_.id rfl
def cases(l:List Case):D:=.list (l.map eO)
structure Cell where
 known:Bool
 n:Int
 deriving DecidableEq,Inhabited
def cF (x:Cell):D:=.agg [.bool x.known,.int x.n]
@[simp] theorem aBX (x:Cell):(cF x).cells=[.bool x.known,.int x.n]:=_root_.id rfl
@[simp] theorem aGH (x:Cell):D.agg [.bool x.known,.int x.n]=cF x:=_root_.id rfl
@[simp] theorem aBV (x:Cell):(cF x).c 0=.bool x.known:=_root_.id rfl
@[simp] theorem aBW (x:Cell):(cF x).c 1=.int x.n:=_root_.id rfl
def cells (l:List Cell):D:=.list (l.map cF)
@[simp] theorem aEn (l:List Cell):(cells l).l=l.map cF:=_root_.id rfl
@[simp] theorem aEm (l:List Cell):(cells l).cells=[cells l]:=_root_.id rfl
structure Said where
 cell:Cell
 order:Int
 path:List Int
 err:Int
 deriving Inhabited
def j6 (x:Said):D:=.agg [.bool x.cell.known,.int x.cell.n,.int x.order,ints x.path,.int x.err]
@[simp] theorem aDl (x:Said):(j6 x).cells=[.bool x.cell.known,.int x.cell.n,.int x.order,ints x.path,.int x.err]:=_root_.id rfl
@[simp] theorem aGV (x:Said):D.agg [.bool x.cell.known,.int x.cell.n,.int x.order,ints x.path,.int x.err]=j6 x:=_root_.id rfl
@[simp] theorem aD2 (x:Said):iu 5 (j6 x)=j6 x:=_root_.id rfl
@[simp] theorem aDk (x:Said):(j6 x).c 4=.int x.err:=_root_.id rfl
@[simp] theorem aH3 (a0 x0:D):cM [a0] 0 [x0]=[x0]:=_root_.id rfl
@[simp] theorem aH4 (a0 a1 x0 x1:D):cM [a0,a1] 0 [x0,x1]=[x0,x1]:=_root_.id rfl
@[simp] theorem aH5 (a0 a1 a2 x0 x1 x2:D):cM [a0,a1,a2] 0 [x0,x1,x2]=[x0,x1,x2]:=_root_.id rfl
@[simp] theorem aH6 (a0 a1 a2 a3 x0 x1 x2 x3:D):cM [a0,a1,a2,a3] 0 [x0,x1,x2,x3]=[x0,x1,x2,x3]:=_root_.id rfl
@[simp] theorem aH7 (a0 a1 a2 a3 a4 x0 x1 x2 x3 x4:D):cM [a0,a1,a2,a3,a4] 0 [x0,x1,x2,x3,x4]=[x0,x1,x2,x3,x4]:=_root_.id rfl
@[simp] theorem aH8 (a0 a1 a2 a3 a4 a5 x0 x1 x2 x3 x4 x5:D):cM [a0,a1,a2,a3,a4,a5] 0 [x0,x1,x2,x3,x4,x5]=[x0,x1,x2,x3,x4,x5]:=_root_.id rfl
@[simp] theorem aH9 (a0 a1 a2 a3 a4 a5 a6 a7 a8 x0 x1 x2 x3 x4 x5 x6 x7 x8:D):cM [a0,a1,a2,a3,a4,a5,a6,a7,a8] 0 [x0,x1,x2,x3,x4,x5,x6,x7,x8]=[x0,x1,x2,x3,x4,x5,x6,x7,x8]:=_root_.id rfl
end Rm
set_option maxRecDepth 100000
namespace Rm
open Go Go.Proofs Cx
abbrev I:Ty:=.int .i64
abbrev Y0:Ty:=.agg [.str,I,I,(.slice I),(.slice I),(.slice I)]
abbrev Y1:Ty:=.agg [I]
abbrev Y2:Ty:=.agg [.str,I,I]
abbrev Y3:Ty:=.agg [I,I,.bool]
abbrev Y4:Ty:=.agg [I,I,I,(.slice .trm)]
abbrev Y5:Ty:=.agg [.str,.bool,(.slice Y3),(.slice Y4)]
abbrev Y6:Ty:=.agg [I,I,I]
abbrev Y7:Ty:=.agg [I,I,I,I,I]
abbrev Y8:Ty:=.agg [(.slice .str),(.slice Y0),(.slice Y1),(.slice Y2),(.slice Y5),(.slice Y6),(.slice Y7),(.slice Y6)]
abbrev Y9:Ty:=.agg [I,I,I,I,I,I,I,I,I]
abbrev pX:Ty:=.agg [I,I]
abbrev fc:Ty:=.agg [I,I,I,I,I,I,I,I,I,I,I,I,I,I,I,(.slice Y9),(.slice pX),(.slice Y9),(.slice Y6)]
abbrev oI:Ty:=.agg [I,I,I,I,I,I,I,I,I,I,I,I,I,I,I,(.slice Y9),(.slice pX),(.slice Y9),(.slice Y6),I,I,I,I,I]
abbrev q7:Ty:=.agg [.bool,I,I,(.slice I),I]
abbrev ir:Ty:=.agg [.bool,I]
abbrev LQ:Ty:=.agg [I,I,I,I]
abbrev pY:Ty:=.agg [I,I,(.slice .trm)]
abbrev nl:Ty:=.agg [(.slice .str),(.slice Y0),(.slice Y1),(.slice Y2),(.slice Y5),(.slice Y6),(.slice Y7),(.slice Y6),I,I,I,I,I,I,I,I,I,I,I,I,I,I,I,I,(.slice Y9),(.slice pX),(.slice Y9),(.slice Y6),I,I,I]
abbrev DT:Ty:=.agg [I,I,I,I,I,I,I,I,I,I,I,I,I,I,I]
abbrev Vn:Ty:=.agg [(.slice ir)]
abbrev Y20:Ty:=.agg [(.slice I),I]
def af:List (Nat×Sig):=[
 (7,⟨[Y8,I,fc,I,I,I],.bool,.dat⟩),
 (28,⟨[Y8,I,I,oI],q7,.dat⟩),
 (30,⟨[fc,I],fc,.dat⟩),
 (31,⟨[Y8,oI],(.slice ir),.dat⟩),
 (32,⟨[Y8,I],I,.dat⟩),
 (33,⟨[Y8,I,I,(.slice I)],(.tup [(.slice I),I]),.dat⟩),
 (35,⟨[Y5,I,(.slice ir)],(.tup [ir,I]),.dat⟩),
 (36,⟨[],.bool,.dat⟩),
 (37,⟨[Y8,fc],.bool,.dat⟩),
 (38,⟨[Y8,I,fc,I,I],LQ,.dat⟩),
 (39,⟨[fc,I],fc,.dat⟩),
 (40,⟨[LQ,LQ],.bool,.dat⟩),
 (41,⟨[Y8,I,fc,I],I,.dat⟩),
 (42,⟨[Y8,fc],I,.dat⟩),
 (43,⟨[Y8,I,fc,I],I,.dat⟩),
 (46,⟨[q7],I,.dat⟩),
 (48,⟨[q7],I,.dat⟩),
 (50,⟨[Y8,I,I,fc,I],q7,.dat⟩),
 (53,⟨[Y8,fc],.bool,.dat⟩),
 (54,⟨[Y8],I,.dat⟩),
 (58,⟨[Y8],.bool,.dat⟩),
 (62,⟨[Y8],I,.dat⟩),
 (83,⟨[Y8,I,I,oI],(.tup [q7,(.slice ir)]),.dat⟩),
 (84,⟨[Y8,oI],(.tup [oI,(.slice ir)]),.dat⟩),
 (85,⟨[Y8,I,oI],(.nsl I),.dat⟩),
 (86,⟨[I,I],.bool,.dat⟩),
 (87,⟨[(.slice pX),(.fn [pX] .bool)],.bool,.dat⟩),
 (88,⟨[pX,(.ref oI)],.bool,.dat⟩),
 (89,⟨[.bool],ir,.dat⟩),
 (90,⟨[fc,I,I],ir,.dat⟩),
 (91,⟨[I,I],.bool,.dat⟩),
 (92,⟨[Y8,I,I,(.slice I)],.bool,.dat⟩),
 (93,⟨[Y8,I,I,(.slice I)],(.tup [I,.bool]),.dat⟩),
 (94,⟨[(.slice I),I],.bool,.dat⟩),
 (95,⟨[Y5,I],(.tup [pY,I]),.dat⟩),
 (96,⟨[pY,(.slice ir)],ir,.dat⟩),
 (97,⟨[I],(.tup [I,.bool]),.dat⟩),
 (98,⟨[],Y8,.dat⟩),
 (99,⟨[I,I],fc,.dat⟩),
 (100,⟨[Y8,I,fc,I,I],nl,.dat⟩),
 (101,⟨[nl],I,.dat⟩),
 (102,⟨[q7,I],I,.dat⟩),
 (103,⟨[nl,I],q7,.dat⟩),
 (104,⟨[nl],I,.dat⟩),
 (105,⟨[nl],I,.dat⟩),
 (106,⟨[(.slice I)],I,.dat⟩),
 (107,⟨[I,I],.bool,.dat⟩),
 (108,⟨[Y8,DT,I,I],(.tup [I,I]),.dat⟩),
 (109,⟨[fc],I,.dat⟩),
 (110,⟨[Y8,DT],I,.dat⟩),
 (111,⟨[Y8,fc,I],I,.dat⟩),
 (112,⟨[I,I,I],.bool,.dat⟩),
 (113,⟨[Y8,fc],I,.dat⟩),
 (114,⟨[fc],I,.dat⟩),
 (115,⟨[nl],I,.dat⟩),
 (120,⟨[I],.bool,.dat⟩),
 (121,⟨[Y0,I],.bool,.dat⟩),
 (127,⟨[fc],.bool,.dat⟩),
 (128,⟨[Y5],.bool,.dat⟩),
 (129,⟨[Y8],(.tup [(.slice .str),(.slice .str),(.slice .str)]),.dat⟩),
 (130,⟨[(.slice .str),I,(.fn [I] .bool)],I,.dat⟩),
 (131,⟨[I],.bool,.dat⟩),
 (132,⟨[I,(.ref Y8)],.bool,.dat⟩),
 (133,⟨[Y8,Y0],.bool,.dat⟩),
 (134,⟨[I,(.ref Y8)],.bool,.dat⟩),
 (135,⟨[I,(.ref Y8)],.bool,.dat⟩),
 (136,⟨[Y5],.bool,.dat⟩),
 (137,⟨[Y8],I,.dat⟩),
 (138,⟨[Y8],I,.dat⟩),
 (145,⟨[Y8],I,.dat⟩),
 (146,⟨[Y8],I,.dat⟩),
 (147,⟨[Y8],I,.dat⟩),
 (148,⟨[Y8],I,.dat⟩),
 (149,⟨[Y8],I,.dat⟩),
 (164,⟨[(.slice pX),(.fn [pX] .bool)],I,.dat⟩),
 (165,⟨[(.slice I),(.fn [I] .bool)],.bool,.dat⟩),
 (166,⟨[I,(.ref I)],.bool,.dat⟩),
 (167,⟨[(.slice I),I],I,.dat⟩),
 (168,⟨[(.slice Y4),(.fn [Y4] .bool)],I,.dat⟩),
 (169,⟨[Y4,(.ref I)],.bool,.dat⟩),
 (170,⟨[pY],(.tup [I,I]),.dat⟩),
 (171,⟨[Vn,pY],(.tup [ir,(.slice I)]),.dat⟩),
 (172,⟨[nl,I,ir],I,.dat⟩),
 (173,⟨[nl,I,I],I,.dat⟩),
 (174,⟨[nl],ir,.dat⟩),
 (175,⟨[nl],I,.dat⟩),
 (176,⟨[nl,q7,I],ir,.dat⟩),
 (177,⟨[Y8,I],.bool,.dat⟩),
 (178,⟨[I],.bool,.dat⟩),
 (179,⟨[Y6],.bool,.dat⟩),
 (180,⟨[Y8,DT,I],(.tup [I,I]),.dat⟩),
 (181,⟨[Y8,I,I],(.tup [I,I]),.dat⟩),
 (182,⟨[(.slice I)],I,.dat⟩),
 (183,⟨[I,I],.bool,.dat⟩),
 (184,⟨[DT],.bool,.dat⟩),
 (185,⟨[Y8,I,I],(.tup [I,I]),.dat⟩),
 (186,⟨[Y8,fc,I],.bool,.dat⟩),
 (187,⟨[Y8,fc,Y9],.bool,.dat⟩),
 (188,⟨[(.slice I)],I,.dat⟩),
 (189,⟨[I,I],I,.dat⟩),
 (201,⟨[I],(.tup [I,I,I]),.dat⟩),
 (203,⟨[pY],.bool,.dat⟩),
 (204,⟨[(.slice .str),I],I,.dat⟩),
 (205,⟨[(.slice I),I,I],.bool,.dat⟩),
 (208,⟨[(.slice .str),I],I,.dat⟩),
 (209,⟨[Y8,Y0],.bool,.dat⟩),
 (210,⟨[I,I,I],.bool,.dat⟩),
 (211,⟨[Y5],.bool,.dat⟩),
 (216,⟨[(.slice I),(.fn [I] .bool)],I,.dat⟩),
 (217,⟨[pY,I],I,.dat⟩),
 (218,⟨[pY],(.tup [I,I]),.dat⟩),
 (219,⟨[Vn,I],ir,.dat⟩),
 (220,⟨[I,(.slice ir)],ir,.dat⟩),
 (221,⟨[(.slice (.slice I))],(.slice I),.dat⟩),
 (222,⟨[Y0,I,I],(.tup [I,I]),.dat⟩),
 (223,⟨[I,Y6],(.tup [I,I]),.dat⟩),
 (224,⟨[Y8,I,I],I,.dat⟩),
 (225,⟨[Y0,I],(.tup [I,I]),.dat⟩),
 (226,⟨[fc,I,(.slice I)],.bool,.dat⟩),
 (227,⟨[fc,I,I],.bool,.dat⟩),
 (228,⟨[I],.bool,.dat⟩),
 (243,⟨[pY,I,I],I,.dat⟩),
 (244,⟨[.str],.bool,.dat⟩),
 (245,⟨[(.slice .str),.str],.bool,.dat⟩),
 (257,⟨[.str],.bool,.dat⟩),
 (258,⟨[(.slice .str),I,.str],.bool,.dat⟩),
 (259,⟨[(.slice I),I,I],.bool,.dat⟩),
 (260,⟨[pY],(.tup [I,I]),.dat⟩),
 (261,⟨[I],Y20,.dat⟩),
 (262,⟨[I],(.tup [I,.bool]),.dat⟩),
 (263,⟨[.bool],ir,.dat⟩),
 (264,⟨[I],I,.dat⟩),
 (265,⟨[I,I,I],I,.dat⟩),
 (266,⟨[.nils .bool,I],(.slice I),(.row 3 I)⟩),
 (267,⟨[I,I],(.tup [I,I]),.dat⟩),
 (268,⟨[Y0,I,I],(.fn [(.fn [I] .bool)] (.tup [])),.dat⟩),
 (279,⟨[(.slice .str),.str],I,.dat⟩),
 (285,⟨[(.int .u8)],.bool,.dat⟩),
 (286,⟨[I,I],I,.dat⟩),
 (287,⟨[I,I,I],(.tup [I,I]),.dat⟩),
 (288,⟨[I,I],I,.dat⟩),
 (298,⟨[(.int .u64),(.int .u64)],(.tup [(.int .u64),(.int .u64)]),.dat⟩),
 (299,⟨[I,I,I],I,.dat⟩)]
def MC:List (Nat×CSig):=[
 (88,⟨[(.ref oI)],[pX],.bool⟩),
 (131,⟨[],[I],.bool⟩),
 (132,⟨[(.ref Y8)],[I],.bool⟩),
 (134,⟨[(.ref Y8)],[I],.bool⟩),
 (135,⟨[(.ref Y8)],[I],.bool⟩),
 (166,⟨[(.ref I)],[I],.bool⟩),
 (169,⟨[(.ref I)],[Y4],.bool⟩),
 (289,⟨[(.ref I),(.ref I),(.ref Y0)],[(.fn [I] .bool)],(.tup [])⟩)]
abbrev aad:Nat:=7
abbrev ZH:Nat:=28
abbrev aaY:Nat:=30
abbrev aa1:Nat:=31
abbrev aaN:Nat:=32
abbrev Z2:Nat:=33
abbrev aaj:Nat:=35
abbrev aag:Nat:=36
abbrev aae:Nat:=37
abbrev Z6:Nat:=38
abbrev aaG:Nat:=39
abbrev aai:Nat:=40
abbrev ZJ:Nat:=41
abbrev aam:Nat:=42
abbrev Z5:Nat:=43
abbrev ZL:Nat:=46
abbrev ZK:Nat:=48
abbrev ZI:Nat:=50
abbrev aaL:Nat:=53
abbrev aaM:Nat:=54
abbrev aaw:Nat:=58
abbrev aav:Nat:=62
abbrev ZM:Nat:=83
abbrev ZN:Nat:=84
abbrev avm:Nat:=85
abbrev aa4:Nat:=86
abbrev aa6:Nat:=87
abbrev aa2:Nat:=88
abbrev aa3:Nat:=89
abbrev aaZ:Nat:=90
abbrev aaQ:Nat:=91
abbrev Z4:Nat:=92
abbrev Z3:Nat:=93
abbrev aa8:Nat:=94
abbrev aal:Nat:=95
abbrev abk:Nat:=96
abbrev aak:Nat:=97
abbrev aaf:Nat:=98
abbrev aah:Nat:=99
abbrev Z7:Nat:=100
abbrev aab:Nat:=101
abbrev Z8:Nat:=102
abbrev Py:Nat:=103
abbrev aac:Nat:=104
abbrev aaa:Nat:=105
abbrev Hf:Nat:=106
abbrev PF:Nat:=107
abbrev BT:Nat:=108
abbrev aa0:Nat:=109
abbrev abx:Nat:=110
abbrev aas:Nat:=111
abbrev BR:Nat:=112
abbrev aao:Nat:=113
abbrev aaq:Nat:=114
abbrev Z9:Nat:=115
abbrev ZY:Nat:=120
abbrev ZX:Nat:=121
abbrev aaH:Nat:=127
abbrev aaK:Nat:=128
abbrev aaT:Nat:=129
abbrev aaP:Nat:=130
abbrev PK:Nat:=131
abbrev PL:Nat:=132
abbrev aaO:Nat:=133
abbrev PM:Nat:=134
abbrev PN:Nat:=135
abbrev aaU:Nat:=136
abbrev aaX:Nat:=137
abbrev aaV:Nat:=138
abbrev aaB:Nat:=145
abbrev aaC:Nat:=146
abbrev aaD:Nat:=147
abbrev aaF:Nat:=148
abbrev aaE:Nat:=149
abbrev aba:Nat:=164
abbrev aa7:Nat:=165
abbrev Px:Nat:=166
abbrev abd:Nat:=167
abbrev abb:Nat:=168
abbrev PG:Nat:=169
abbrev abj:Nat:=170
abbrev PQ:Nat:=171
abbrev PD:Nat:=172
abbrev Pz:Nat:=173
abbrev PB:Nat:=174
abbrev PA:Nat:=175
abbrev Hg:Nat:=176
abbrev abh:Nat:=177
abbrev Hi:Nat:=178
abbrev abg:Nat:=179
abbrev xc:Nat:=180
abbrev Hj:Nat:=181
abbrev abf:Nat:=182
abbrev aby:Nat:=183
abbrev abz:Nat:=184
abbrev Hh:Nat:=185
abbrev aar:Nat:=186
abbrev aan:Nat:=187
abbrev Z0:Nat:=188
abbrev ZZ:Nat:=189
abbrev ZT:Nat:=201
abbrev aaI:Nat:=203
abbrev aaS:Nat:=204
abbrev aaW:Nat:=205
abbrev BS:Nat:=208
abbrev PH:Nat:=209
abbrev aaA:Nat:=210
abbrev PJ:Nat:=211
abbrev abc:Nat:=216
abbrev abt:Nat:=217
abbrev abn:Nat:=218
abbrev abr:Nat:=219
abbrev abo:Nat:=220
abbrev aa5:Nat:=221
abbrev ZS:Nat:=222
abbrev PO:Nat:=223
abbrev abi:Nat:=224
abbrev ZR:Nat:=225
abbrev aap:Nat:=226
abbrev aat:Nat:=227
abbrev Z1:Nat:=228
abbrev aaJ:Nat:=243
abbrev aaR:Nat:=244
abbrev aa9:Nat:=245
abbrev aay:Nat:=257
abbrev aau:Nat:=258
abbrev aaz:Nat:=259
abbrev abq:Nat:=260
abbrev abv:Nat:=261
abbrev abl:Nat:=262
abbrev abw:Nat:=263
abbrev abp:Nat:=264
abbrev abm:Nat:=265
abbrev ZP:Nat:=267
abbrev ZU:Nat:=268
abbrev abe:Nat:=279
abbrev aax:Nat:=285
abbrev abu:Nat:=286
abbrev ZQ:Nat:=287
abbrev ZW:Nat:=288
abbrev ZV:Nat:=289
abbrev ZO:Nat:=298
abbrev Pw:Nat:=299
noncomputable def ctx:Ctx:={P:=Tryz.prog,cap:=ab MC,sig:=ab af,avb:=fun _=>none,glob:=Ss 0 [6,7,10,12,13,14,15,16,20,21]}
abbrev jv:PE:=.setc (.setc (.con (.agg [(.int 0),(.int 0),(.int 0),(.int 0),(.int 0),(.int 0),(.int 0),(.int 0),(.int 0),(.int 0),(.int 0),(.int 0),(.int 0),(.int 0),(.int 0),(.list []),(.list []),(.list []),(.list [])])) 0 (.mk [(ar 15 (.setc DO 0 (.mk [(pi 0),(pi 1),(pi 0),(pi 5),(pi 0),(.mk [(pi 3),(pi 10),(pi 0)]),(pi 2),(pi 0),(pi 0),(pi (-1)),(pi 0),(pi 1),(pi 1)]))),(.lst [(.mk [(pi 0),(pi 0),(pi 0),(pi (-1)),(pi (-1)),(pi 0),(pi 2),(pi 0),(pi 0)])]),pL,pL,pL])) 17 pN
abbrev Ca:PE:=.setc (.con (.agg [(.list []),(.list []),(.list []),(.list []),(.list []),(.list []),(.list []),(.list [])])) 0 (.mk [(.lst [(.con (.v (.string ⟨#[102,114,97,110,99]⟩)))]),(.lst [(.mk [(.con (.v (.string ⟨#[76,121,111,110]⟩))),(pi 0),(pi 0),pL,pL,pL])]),(.lst [(.mk [(pi 0)])]),(.lst [(.mk [(.con (.v (.string ⟨#[97]⟩))),(pi 0),(pi 0)]),(.mk [(.con (.v (.string ⟨#[98]⟩))),(pi 0),(pi 0)])]),(.lst [(.mk [(pc (.setc (.con (.agg [(.v (.string ⟨#[]⟩)),(.bool false),(.list []),(.list [])])) 0 (.mk [(.con (.v (.string ⟨#[103,101,110,101,118,97]⟩))),pF,pL,(.lst [(.mk [(pi 8),(.mk [(pc (.setc (.con (.agg [(.int 0),(.int 0),(.list [])])) 0 (.mk [(pi 1),(pi 1),pL])) 0),(pc (.setc (.con (.agg [(.int 0),(.int 0),(.list [])])) 0 (.mk [(pi 1),(pi 1),pL])) 1),pL])]),(.mk [(pi 9),(.mk [(pc (.setc (.con (.agg [(.int 0),(.int 0),(.list [])])) 0 (.mk [(pi 2),(pi 15),pL])) 0),(pc (.setc (.con (.agg [(.int 0),(.int 0),(.list [])])) 0 (.mk [(pi 2),(pi 15),pL])) 1),pL])]),(.mk [(pi 10),(.mk [(pi 0),(pi 2),pL])])])])) 0),(pc (.setc (.con (.agg [(.v (.string ⟨#[]⟩)),(.bool false),(.list []),(.list [])])) 0 (.mk [(.con (.v (.string ⟨#[103,101,110,101,118,97]⟩))),pF,pL,(.lst [(.mk [(pi 8),(.mk [(pc (.setc (.con (.agg [(.int 0),(.int 0),(.list [])])) 0 (.mk [(pi 1),(pi 1),pL])) 0),(pc (.setc (.con (.agg [(.int 0),(.int 0),(.list [])])) 0 (.mk [(pi 1),(pi 1),pL])) 1),pL])]),(.mk [(pi 9),(.mk [(pc (.setc (.con (.agg [(.int 0),(.int 0),(.list [])])) 0 (.mk [(pi 2),(pi 15),pL])) 0),(pc (.setc (.con (.agg [(.int 0),(.int 0),(.list [])])) 0 (.mk [(pi 2),(pi 15),pL])) 1),pL])]),(.mk [(pi 10),(.mk [(pi 0),(pi 2),pL])])])])) 1),pL,(pc (.setc (.con (.agg [(.v (.string ⟨#[]⟩)),(.bool false),(.list []),(.list [])])) 0 (.mk [(.con (.v (.string ⟨#[103,101,110,101,118,97]⟩))),pF,pL,(.lst [(.mk [(pi 8),(.mk [(pc (.setc (.con (.agg [(.int 0),(.int 0),(.list [])])) 0 (.mk [(pi 1),(pi 1),pL])) 0),(pc (.setc (.con (.agg [(.int 0),(.int 0),(.list [])])) 0 (.mk [(pi 1),(pi 1),pL])) 1),pL])]),(.mk [(pi 9),(.mk [(pc (.setc (.con (.agg [(.int 0),(.int 0),(.list [])])) 0 (.mk [(pi 2),(pi 15),pL])) 0),(pc (.setc (.con (.agg [(.int 0),(.int 0),(.list [])])) 0 (.mk [(pi 2),(pi 15),pL])) 1),pL])]),(.mk [(pi 10),(.mk [(pi 0),(pi 2),pL])])])])) 3)])]),pL,pL,pL])
abbrev uR:PE:=.ai .quo .i64 (bz (aN (bz (.ai .rem .i64 (aN r0 (pi 730425)) (pi 146097)) (.ai .quo .i64 (.ai .rem .i64 (aN r0 (pi 730425)) (pi 146097)) (pi 1460))) (.ai .quo .i64 (.ai .rem .i64 (aN r0 (pi 730425)) (pi 146097)) (pi 36524))) (.ai .quo .i64 (.ai .rem .i64 (aN r0 (pi 730425)) (pi 146097)) (pi 146096))) (pi 365)
abbrev cR:PE:=.con (.agg [(.bool false),(.int 0)])
abbrev sq:PE:=.con (.agg [(.int 0),(.int 0),(.int 0),(.int 0),(.int 0),(.int 0),(.int 0),(.int 0),(.int 0),(.int 0),(.int 0),(.int 0),(.int 0),(.int 0),(.int 0),(.list []),(.list []),(.list []),(.list [])])
abbrev Ks:PE:=.ai .quo .i64 (aN (.ai .mul .i64 (pi 5) (bz (.ai .rem .i64 (aN r0 (pi 730425)) (pi 146097)) (bz (aN (.ai .mul .i64 (pi 365) uR) (.ai .quo .i64 uR (pi 4))) (.ai .quo .i64 uR (pi 100))))) (pi 2)) (pi 153)
abbrev pD:PE:=.deref (.con (.ref (.agg [(.int 6),(.int 7),(.int 10),(.int 12),(.int 13),(.int 14),(.int 15),(.int 16),(.int 20),(.int 21)])))
abbrev jT:PE:=.setc z3 0 (.mk [(pc (.mk [r0]) 5),(pc (.mk [r0]) 6),(pc (.mk [r0]) 7)])
abbrev Kw:PE:=.put (.put (.put (.put (.con (.map [])) (pi 7) (aU (.ai .and .i64 (pc o6 13) (pi 1)) (pi 0))) (pi 8) (aq (pc o6 2) (pi (-1)))) (pi 9) (aU (.ai .and .i64 (pc o6 13) (pi 4)) (pi 0))) (pi 10) (aU (.ai .and .i64 (pc o6 13) (pi 2)) (pi 0))
abbrev Kj:PE:=.con (.agg [(.list []),(.list []),(.list []),(.list []),(.list []),(.list []),(.list []),(.list []),(.int 0),(.int 0),(.int 0),(.int 0),(.int 0),(.int 0),(.int 0),(.int 0),(.int 0),(.int 0),(.int 0),(.int 0),(.int 0),(.int 0),(.int 0),(.int 0),(.list []),(.list []),(.list []),(.list []),(.int 0),(.int 0),(.int 0)])
abbrev mY:PE:=.con (.agg [(.bool false),(.int 0),(.int 0),(.list []),(.int 0)])
abbrev kW:PE:=.con (.agg [(.int 0),(.int 0),(.list [])])
abbrev cn:PE:=pi 4294967296
abbrev ki:PE:=.con (.agg [(.list []),(.int 0)])
abbrev mZ:PE:=.setc z9 0 (pn (pc (.mk [r1]) 15) r2)
abbrev xG:PE:=.mk [(pc (.setc cR 0 ed) 0),(pc (.setc cR 0 ed) 1)]
abbrev xH:PE:=.setc z9 0 (pn (pc (.mk [r2]) 15) (pc (.mk [r2]) 19))
abbrev adI:PE:=.mk [(pc (.mk [r0]) 9),(pc (.mk [r0]) 10),(pc (.mk [r0]) 11),(pc (.mk [r0]) 12),(pc (.mk [r0]) 13),(pc (.mk [r0]) 14),(pc (.mk [r0]) 15),(pc (.mk [r0]) 16),(pc (.mk [r0]) 17),(pc (.mk [r0]) 18),(pc (.mk [r0]) 19),(pc (.mk [r0]) 20),(pc (.mk [r0]) 21),(pc (.mk [r0]) 22),(pc (.mk [r0]) 23),(pc (.mk [r0]) 24),(pc (.mk [r0]) 25),(pc (.mk [r0]) 26),(pc (.mk [r0]) 27)]
abbrev iS:PE:=.setc (.mk [r3]) 18 pL
abbrev QV:PE:=.put (.put (.put (.con (.map [])) (pi 0) (pc o6 3)) (pi 1) (pc o6 14)) (pi 2) (pc o6 5)
abbrev Km:PE:=.pick (.pick (aq (.tget gE 0) (pi 0)) (pc bP 0) pF) (.setc bP 1 (.mn (.mx (pc bP 1) (pi 0)) (pi 20000))) bP
abbrev Cb:PE:=.mk [(pc (.setc o4 0 (.mk [pF,(pi 0)])) 0),(pc (.setc o4 0 (.mk [pF,(pi 0)])) 1)]
abbrev Ko:PE:=.con (.agg [(.int 0),(.int 0),(.bool false)])
abbrev adJ:PE:=.ai .add .u64 (.ai .mul .u64 (.ai .shr .u64 r0 (.con (.v (.int .u64 32)))) (.ai .and .u64 r1 (.con (.v (.int .u64 4294967295))))) (.ai .shr .u64 (.ai .mul .u64 (.ai .and .u64 r0 (.con (.v (.int .u64 4294967295)))) (.ai .and .u64 r1 (.con (.v (.int .u64 4294967295))))) (.con (.v (.int .u64 32))))
abbrev uP:PE:=.setc (.setc bP 3 (.tget Cl 0)) 4 (.tget Cl 1)
abbrev hH:PE:=ar 8 (.mk [r0])
abbrev Kp:PE:=aN (bz (aN (.ai .mul .i64 (pi 12) (.tget iU 0)) (.tget iU 1)) (pi 1)) r1
abbrev jR:PE:=.setc jv 17 pN
abbrev uQ:PE:=pc (.mk [r0]) 2
abbrev jS:PE:=pc (.mk [r0]) 0
abbrev kj:PE:=.llen (pc o1 1)
abbrev QW:PE:=.mk [(pc (.setc o4 0 (.mk [(pi 0),(pi 0),pL])) 0),(pc (.setc o4 0 (.mk [(pi 0),(pi 0),pL])) 1),pL]
abbrev xI:PE:=.setc z3 0 (pn bM cL)
abbrev l9:PE:=.llen (pc o1 3)
abbrev adK:PE:=.pick (.pick (aq (.tget jx 0) (.con (.v (.int .u64 0)))) (aj (.tget jx 1) (.con (.v (.int .u64 1099511627776)))) pF) (.conv .i64 (.tget jx 1)) (pi 1099511627776)
abbrev adL:PE:=.app (.lst [(.mk [(pi 2),(pi 0),(pi 1),(pi 0),(pi (-1)),(pi 0),(pi 10),(pi 0),(pi 0)])]) (.lst [(.mk [(pi 4),(pi 0),(pi 1),(pi 0),(pi (-1)),(pi 0),r0,(pi 0),r1])])
abbrev QX:PE:=ar 5 (.setc o8 0 (.mk [(pc bP 0),(pc bP 1),(pc bP 2),(.o 16394),(pc bP 4)]))
abbrev xJ:PE:=.mk [pT,(pi 9223372036854775807)]
abbrev m0:PE:=.llen (pc o3 2)
abbrev m3:PE:=.llen (pc o1 4)
abbrev adM:PE:=.pick (.pick (.pick (aj (pc xH 2) (pi 0)) pT (cm (pc xH 2) (.llen (pc (.mk [r0]) 3)))) pT (aj r1 (pi 0))) pT (cm r1 (.llen (pc (.mk [r0]) 4)))
abbrev QY:PE:=.put (.con (.map [])) (pi 7) (aU (.ai .and .i64 (pc o6 13) (pi 1)) (pi 0))
abbrev od:PE:=pc (.mk [r0]) 1
abbrev oe:PE:=.mk [pF,(pi 0)]
abbrev pB:PE:=pc (.mk [r0]) 15
abbrev adN:PE:=.app o2 (.lst [(pc (.setc (.con (.agg [(.v (.string ⟨#[]⟩)),(.int 0),(.int 0),(.list []),(.list []),(.list [])])) 0 (pn bM cL)) 0)])
abbrev Cc:PE:=bz (pi 2) (pc (pn o7 (pi 0)) 1)
abbrev Kq:PE:=.setc kW 0 (.sub (pn (pc o2 3) iU) 1 3)
abbrev pC:PE:=.llen (pc o1 2)
abbrev Kr:PE:=.pick (aj r1 (pi 3)) (bz r0 (pi 1)) r0
abbrev adO:PE:=.app o4 (.lst [(pc (.setc (.con (.agg [(.v (.string ⟨#[]⟩)),(.bool false),(.list []),(.list [])])) 0 (pn iW oq)) 0)])
abbrev xK:PE:=.con (.v (.int .u64 32))
abbrev adP:PE:=.setc (.con (.agg [(.list []),(.list []),(.list []),(.list []),(.list []),(.list []),(.list []),(.list [])])) 0 r9
abbrev adQ:PE:=.put (.put (.put Kw (pi 11) (aU Ra Rb)) (pi 12) dz) (pi 13) (aU (.ai .and .i64 (pc o8 8) (pi 1)) (pi 0))
abbrev og:PE:=pn r1 (pi 1)
abbrev qO:PE:=aN r8 (pi 1)
abbrev QZ:PE:=.put (.put QV (pi 3) (pc o6 12)) (pi 4) (pc o8 0)
abbrev adR:PE:=.pick (aV (.llen (pc (pn (pc o1 1) r3) 4)) (pi 70)) pT (aV (.llen (pc (pn (pc o1 1) r3) 5)) (pi 210))
abbrev Cd:PE:=.setc Ko 0 (pn iU iV)
abbrev oh:PE:=.llen uQ
abbrev adS:PE:=.app o3 (.lst [(pc (.setc (.con (.agg [(.v (.string ⟨#[]⟩)),(.int 0),(.int 0)])) 0 (pn iV ed)) 0)])
abbrev adT:PE:=.app o4 (.lst [(pc (.setc (.con (.agg [(.int 0),(.int 0),(.int 0),(.list [])])) 0 (pn ed km)) 0)])
abbrev sr:PE:=.llen (pc o1 0)
abbrev adU:PE:=.an (.cb .eql (pc (pn r1 (pi 0)) 0) (pc xG 0)) (.an (aq (pc (pn r1 (pi 0)) 1) (pc xG 1)) pT)
abbrev adV:PE:=.app (.o 69637) (.lst [(.mk [(pc (.setc z2 0 (pn qU pH)) 0),(pc (.setc z2 0 (pn qU pH)) 1)])])
abbrev Ce:PE:=aj r6 (.llen (pc o2 17))
abbrev Cf:PE:=aj r5 (.llen (pc o2 15))
abbrev adW:PE:=.setc o6 0 (.mk [pT,(.pick (aU (.tget Ck 1) (pi 0)) (pi 9223372036854775807) (.tget Ck 0))])
abbrev Q0:PE:=.setc o4 0 (.mk [(pc o9 0),(pc o9 1),(pc o9 2)])
abbrev adX:PE:=.pick (.nt (.nt (.an (.an cL pT) (.nt pF)))) (.app (.o 1000) (.lst [(.tup [r5])])) (.o 1000)
abbrev su:PE:=aN r3 (pi 1)
abbrev xL:PE:=aU (pi 100) (pi 0)
abbrev adY:PE:=.pick (aV (aN Ks (pi 3)) (pi 12)) (bz (aN Ks (pi 3)) (pi 12)) (aN Ks (pi 3))
abbrev adZ:PE:=.setc o4 0 (.mk [(pc (.setc cR 0 (.tget jU 0)) 0),(pc (.setc cR 0 (.tget jU 0)) 1)])
abbrev Cg:PE:=.setc z9 0 (pn r34 jV)
abbrev Ch:PE:=.setc z9 0 (pn kl gE)
abbrev Kt:PE:=.setc cR 0 (.mk [pT,(pi 1)])
abbrev Ku:PE:=.setc cR 0 (.mk [pT,(pi 0)])
abbrev Kv:PE:=bz (.llen (pc o3 3)) (pi 1)
abbrev uS:PE:=pn (pc o1 4) r4
abbrev Q3:PE:=aq (.sidx r0 r3) (.con (.v (.int .u8 95)))
abbrev uT:PE:=pc (.mk [r0]) 5
abbrev ad0:PE:=.pick (.pick (aq (pc xI 0) r1) (br (pc xI 1) r2) pF) (br r2 (pc xI 2)) pF
abbrev uU:PE:=.llen (pc o1 7)
abbrev Ci:PE:=.con (.agg [(.int 0)])
abbrev ad1:PE:=aN uR (.ai .mul .i64 (pi 400) (.ai .quo .i64 (aN r0 (pi 730425)) (pi 146097)))
abbrev Q4:PE:=aN (pc o1 17) (pc (.setc mY 0 bM) 1)
abbrev pE:PE:=pn cL dc
abbrev pG:PE:=pn bI dz
abbrev qP:PE:=aj cL dz
abbrev Q5:PE:=.app o5 (.lst [(pc (pn (pc o1 1) r6) 0)])
abbrev Q6:PE:=.app o4 (.lst [(pc (pn (pc o1 3) r5) 0)])
abbrev uV:PE:=aN r5 (pi 1)
abbrev xM:PE:=pi 1099511627776
abbrev ad2:PE:=.pick (.pick (.nt dL) pT (aj r3 (pi 0))) pT (cm r3 (.llen (pc o8 15)))
abbrev xN:PE:=pc (.mk [r0]) 4
abbrev Q7:PE:=.pick (cm r0 (pi 0)) (aj r0 r1) pF
abbrev xO:PE:=.llen (pc o1 5)
abbrev ad3:PE:=.setc o4 0 (.mk [(pc (.setc cR 0 KA) 0),(pc (.setc cR 0 KA) 1)])
abbrev adE:PE:=.setc o4 0 (.mk [(pc (.setc cR 0 kl) 0),(pc (.setc cR 0 kl) 1)])
abbrev Kk:PE:=.setc z9 0 (pn gE ma)
abbrev adF:PE:=.setc ki 0 (.mk [(.lst [(pi 1),(pi (-1)),(pi (-1))]),(pi (-1))])
abbrev adG:PE:=.pick (aU (pc o3 22) (pi (-1))) (bz (pc o8 6) (pc o3 22)) (pi 0)
abbrev QU:PE:=.ai .rem .i64 (pn r8 cE) (pi 100)
abbrev adH:PE:=.app (.o 77829) (.lst [(.mk [(pc PX 0),(pc PX 1),(pc PX 2)])])
abbrev Kl:PE:=ar 4 (.setc z4 0 om)
end Rm
