/-
  What comes in as Lean's own data: realms, files, cases.
-/
import Derived.Test.YtefchokhgdmamaaGreatDoorHAJ
set_option linter.unusedSimpArgs false
set_option linter.unusedVariables false
namespace Rm
open Go Cx
abbrev str (b:ByteArray):D:=.v (.string b)
def strs (l:List ByteArray):D:=.list (l.map str)
@[simp] theorem auN (l:List ByteArray):(strs l).l=l.map str:=_root_.id rfl
theorem str_inv {d:D}(h:DTy .str d):∃b,d=str b:=by
 cases h with
 |str b=>exact⟨b,rfl⟩
 |other t d h=>exact h.elim
theorem al6 {d:D}(h:DTy (.slice .str) d):∃l:List ByteArray,d=strs l∧l.length≤maxLen:=by
 obtain⟨xs,rfl,hm,hx⟩:=h.slice_inv;obtain⟨l,rfl,hl⟩:=j1 (enc:=str) (P:=fun _=>True) fun x hh=>(str_inv (hx x hh)).imp fun b hb=>⟨hb,trivial⟩
 exact⟨l,rfl,by simpa using hm⟩
@[simp] theorem aqk (t:Tm):(dQ t).cells=[.int t.op,.int t.n,.list (t.args.map dQ)]:=by rw[Bj];rfl
@[simp] theorem aql (t:Tm):D.agg [.int t.op,.int t.n,.list (t.args.map dQ)]=dQ t:=(Bj t).symm
@[simp] theorem aqh (t:Tm):(dQ t).c 0=.int t.op:=by rw[Bj];rfl
@[simp] theorem aqi (t:Tm):(dQ t).c 1=.int t.n:=by rw[Bj];rfl
@[simp] theorem aqj (t:Tm):(dQ t).c 2=.list (t.args.map dQ):=by rw[Bj];rfl
structure City where
 name:ByteArray
 order:Int
 currency:Int
 rest:List Int
 feasts:List Int
 shut:List Int
 deriving Inhabited
def mG (x:City):D:=.agg [str x.name,.int x.order,.int x.currency,ints x.rest,ints x.feasts,ints x.shut]
@[simp] theorem apk (x:City):(mG x).cells=[str x.name,.int x.order,.int x.currency,ints x.rest,ints x.feasts,ints x.shut]:=_root_.id rfl
@[simp] theorem atr (x:City):D.agg [str x.name,.int x.order,.int x.currency,ints x.rest,ints x.feasts,ints x.shut]=mG x:=_root_.id rfl
@[simp] theorem ape (x:City):(mG x).c 0=str x.name:=_root_.id rfl
@[simp] theorem apf (x:City):(mG x).c 1=.int x.order:=_root_.id rfl
@[simp] theorem apg (x:City):(mG x).c 2=.int x.currency:=_root_.id rfl
@[simp] theorem aph (x:City):(mG x).c 3=ints x.rest:=_root_.id rfl
@[simp] theorem api (x:City):(mG x).c 4=ints x.feasts:=_root_.id rfl
@[simp] theorem apj (x:City):(mG x).c 5=ints x.shut:=_root_.id rfl
def xY (l:List City):D:=.list (l.map mG)
@[simp] theorem aqZ (l:List City):(xY l).l=l.map mG:=_root_.id rfl
abbrev Rw:Ty:=.agg [.str,.int .i64,.int .i64,.slice (.int .i64),.slice (.int .i64),.slice (.int .i64)]
def City.OK (x:City):Prop:=aT x.order∧aT x.currency∧(x.rest.length≤maxLen∧∀y,y∈x.rest→aT y)∧(x.feasts.length≤maxLen∧∀y,y∈x.feasts→aT y)∧(x.shut.length≤maxLen∧∀y,y∈x.shut→aT y)
theorem abT {d:D}(h:DTy Rw d):∃x:City,d=mG x∧x.OK:=by
 obtain⟨ds,rfl,hs⟩:=h.agg_inv;obtain⟨d0,ds,rfl,h0,hs⟩:=hs.cons_inv;obtain⟨d1,ds,rfl,h1,hs⟩:=hs.cons_inv;obtain⟨d2,ds,rfl,h2,hs⟩:=hs.cons_inv;obtain⟨d3,ds,rfl,h3,hs⟩:=hs.cons_inv;obtain⟨d4,ds,rfl,h4,hs⟩:=hs.cons_inv;obtain⟨d5,ds,rfl,h5,hs⟩:=hs.cons_inv;obtain rfl:=hs.nil_inv;obtain⟨n0,rfl⟩:=str_inv h0;obtain⟨n1,rfl,b1⟩:=h1.i64_inv;obtain⟨n2,rfl,b2⟩:=h2.i64_inv;obtain⟨n3,rfl,b3,c3⟩:=h3.ints_inv;obtain⟨n4,rfl,b4,c4⟩:=h4.ints_inv;obtain⟨n5,rfl,b5,c5⟩:=h5.ints_inv;exact⟨⟨n0,n1,n2,n3,n4,n5⟩,rfl,⟨b1,b2,⟨b3,c3⟩,⟨b4,c4⟩,⟨b5,c5⟩⟩⟩
theorem abU {d:D}(h:DTy (.slice Rw) d):∃l:List City,d=xY l∧l.length≤maxLen∧∀y,y∈l→City.OK y:=by
 obtain⟨xs,rfl,hm,hx⟩:=h.slice_inv;obtain⟨l,rfl,hl⟩:=j1 (enc:=mG) (P:=City.OK) fun x hh=>abT (hx x hh);exact⟨l,rfl,by simpa using hm,hl⟩
structure Firm where
 name:ByteArray
 city:Int
 group:Int
 deriving Inhabited
def q8 (x:Firm):D:=.agg [str x.name,.int x.city,.int x.group]
@[simp] theorem apA (x:Firm):(q8 x).cells=[str x.name,.int x.city,.int x.group]:=_root_.id rfl
@[simp] theorem atu (x:Firm):D.agg [str x.name,.int x.city,.int x.group]=q8 x:=_root_.id rfl
@[simp] theorem apx (x:Firm):(q8 x).c 0=str x.name:=_root_.id rfl
@[simp] theorem apy (x:Firm):(q8 x).c 1=.int x.city:=_root_.id rfl
@[simp] theorem apz (x:Firm):(q8 x).c 2=.int x.group:=_root_.id rfl
def firms (l:List Firm):D:=.list (l.map q8)
@[simp] theorem ase (l:List Firm):(firms l).l=l.map q8:=_root_.id rfl
abbrev Ry:Ty:=.agg [.str,.int .i64,.int .i64]
def Firm.OK (x:Firm):Prop:=aT x.city∧aT x.group
theorem adC {d:D}(h:DTy Ry d):∃x:Firm,d=q8 x∧x.OK:=by
 obtain⟨ds,rfl,hs⟩:=h.agg_inv;obtain⟨d0,ds,rfl,h0,hs⟩:=hs.cons_inv;obtain⟨d1,ds,rfl,h1,hs⟩:=hs.cons_inv;obtain⟨d2,ds,rfl,h2,hs⟩:=hs.cons_inv;obtain rfl:=hs.nil_inv;obtain⟨n0,rfl⟩:=str_inv h0;obtain⟨n1,rfl,b1⟩:=h1.i64_inv;obtain⟨n2,rfl,b2⟩:=h2.i64_inv;exact⟨⟨n0,n1,n2⟩,rfl,⟨b1,b2⟩⟩
theorem adD {d:D}(h:DTy (.slice Ry) d):∃l:List Firm,d=firms l∧l.length≤maxLen∧∀y,y∈l→Firm.OK y:=by
 obtain⟨xs,rfl,hm,hx⟩:=h.slice_inv;obtain⟨l,rfl,hl⟩:=j1 (enc:=q8) (P:=Firm.OK) fun x hh=>adC (hx x hh);exact⟨l,rfl,by simpa using hm,hl⟩
structure Group where
 grade:Int
 deriving DecidableEq,Inhabited
def vl (x:Group):D:=.agg [.int x.grade]
@[simp] theorem apC (x:Group):(vl x).cells=[.int x.grade]:=_root_.id rfl
@[simp] theorem atv (x:Group):D.agg [.int x.grade]=vl x:=_root_.id rfl
@[simp] theorem apB (x:Group):(vl x).c 0=.int x.grade:=_root_.id rfl
def groups (l:List Group):D:=.list (l.map vl)
@[simp] theorem asp (l:List Group):(groups l).l=l.map vl:=_root_.id rfl
abbrev Rz:Ty:=.agg [.int .i64]
def Group.OK (x:Group):Prop:=aT x.grade
theorem aeF {d:D}(h:DTy Rz d):∃x:Group,d=vl x∧x.OK:=by
 obtain⟨ds,rfl,hs⟩:=h.agg_inv;obtain⟨d0,ds,rfl,h0,hs⟩:=hs.cons_inv;obtain rfl:=hs.nil_inv;obtain⟨n0,rfl,b0⟩:=h0.i64_inv;exact⟨⟨n0⟩,rfl,b0⟩
theorem aeG {d:D}(h:DTy (.slice Rz) d):∃l:List Group,d=groups l∧l.length≤maxLen∧∀y,y∈l→Group.OK y:=by
 obtain⟨xs,rfl,hm,hx⟩:=h.slice_inv;obtain⟨l,rfl,hl⟩:=j1 (enc:=vl) (P:=Group.OK) fun x hh=>aeF (hx x hh);exact⟨l,rfl,by simpa using hm,hl⟩
structure Usance where
 fr:Int
 to:Int
 days:Int
 deriving DecidableEq,Inhabited
def rf (x:Usance):D:=.agg [.int x.fr,.int x.to,.int x.days]
@[simp] theorem aqt (x:Usance):(rf x).cells=[.int x.fr,.int x.to,.int x.days]:=_root_.id rfl
@[simp] theorem atG (x:Usance):D.agg [.int x.fr,.int x.to,.int x.days]=rf x:=_root_.id rfl
@[simp] theorem aqq (x:Usance):(rf x).c 0=.int x.fr:=_root_.id rfl
@[simp] theorem aqr (x:Usance):(rf x).c 1=.int x.to:=_root_.id rfl
@[simp] theorem aqs (x:Usance):(rf x).c 2=.int x.days:=_root_.id rfl
def usances (l:List Usance):D:=.list (l.map rf)
@[simp] theorem auQ (l:List Usance):(usances l).l=l.map rf:=_root_.id rfl
abbrev RG:Ty:=.agg [.int .i64,.int .i64,.int .i64]
def Usance.OK (x:Usance):Prop:=aT x.fr∧aT x.to∧aT x.days
theorem an8 {d:D}(h:DTy RG d):∃x:Usance,d=rf x∧x.OK:=by
 obtain⟨ds,rfl,hs⟩:=h.agg_inv;obtain⟨d0,ds,rfl,h0,hs⟩:=hs.cons_inv;obtain⟨d1,ds,rfl,h1,hs⟩:=hs.cons_inv;obtain⟨d2,ds,rfl,h2,hs⟩:=hs.cons_inv;obtain rfl:=hs.nil_inv;obtain⟨n0,rfl,b0⟩:=h0.i64_inv;obtain⟨n1,rfl,b1⟩:=h1.i64_inv;obtain⟨n2,rfl,b2⟩:=h2.i64_inv;exact⟨⟨n0,n1,n2⟩,rfl,⟨b0,b1,b2⟩⟩
theorem an9 {d:D}(h:DTy (.slice RG) d):∃l:List Usance,d=usances l∧l.length≤maxLen∧∀y,y∈l→Usance.OK y:=by
 obtain⟨xs,rfl,hm,hx⟩:=h.slice_inv;obtain⟨l,rfl,hl⟩:=j1 (enc:=rf) (P:=Usance.OK) fun x hh=>an8 (hx x hh);exact⟨l,rfl,by simpa using hm,hl⟩
structure Rate where
 fr:Int
 to:Int
 num:Int
 den:Int
 since:Int
 deriving DecidableEq,Inhabited
def oz (x:Rate):D:=.agg [.int x.fr,.int x.to,.int x.num,.int x.den,.int x.since]
@[simp] theorem apR (x:Rate):(oz x).cells=[.int x.fr,.int x.to,.int x.num,.int x.den,.int x.since]:=_root_.id rfl
@[simp] theorem aty (x:Rate):D.agg [.int x.fr,.int x.to,.int x.num,.int x.den,.int x.since]=oz x:=_root_.id rfl
@[simp] theorem apM (x:Rate):(oz x).c 0=.int x.fr:=_root_.id rfl
@[simp] theorem apN (x:Rate):(oz x).c 1=.int x.to:=_root_.id rfl
@[simp] theorem apO (x:Rate):(oz x).c 2=.int x.num:=_root_.id rfl
@[simp] theorem apP (x:Rate):(oz x).c 3=.int x.den:=_root_.id rfl
@[simp] theorem apQ (x:Rate):(oz x).c 4=.int x.since:=_root_.id rfl
def rates (l:List Rate):D:=.list (l.map oz)
@[simp] theorem aug (l:List Rate):(rates l).l=l.map oz:=_root_.id rfl
abbrev RD:Ty:=.agg [.int .i64,.int .i64,.int .i64,.int .i64,.int .i64]
def Rate.OK (x:Rate):Prop:=aT x.fr∧aT x.to∧aT x.num∧aT x.den∧aT x.since
theorem ak2 {d:D}(h:DTy RD d):∃x:Rate,d=oz x∧x.OK:=by
 obtain⟨ds,rfl,hs⟩:=h.agg_inv;obtain⟨d0,ds,rfl,h0,hs⟩:=hs.cons_inv;obtain⟨d1,ds,rfl,h1,hs⟩:=hs.cons_inv;obtain⟨d2,ds,rfl,h2,hs⟩:=hs.cons_inv;obtain⟨d3,ds,rfl,h3,hs⟩:=hs.cons_inv;obtain⟨d4,ds,rfl,h4,hs⟩:=hs.cons_inv;obtain rfl:=hs.nil_inv;obtain⟨n0,rfl,b0⟩:=h0.i64_inv;obtain⟨n1,rfl,b1⟩:=h1.i64_inv;obtain⟨n2,rfl,b2⟩:=h2.i64_inv;obtain⟨n3,rfl,b3⟩:=h3.i64_inv;obtain⟨n4,rfl,b4⟩:=h4.i64_inv;exact⟨⟨n0,n1,n2,n3,n4⟩,rfl,⟨b0,b1,b2,b3,b4⟩⟩
theorem ak3 {d:D}(h:DTy (.slice RD) d):∃l:List Rate,d=rates l∧l.length≤maxLen∧∀y,y∈l→Rate.OK y:=by
 obtain⟨xs,rfl,hm,hx⟩:=h.slice_inv;obtain⟨l,rfl,hl⟩:=j1 (enc:=oz) (P:=Rate.OK) fun x hh=>ak2 (hx x hh);exact⟨l,rfl,by simpa using hm,hl⟩
structure Halt where
 order:Int
 fr:Int
 to:Int
 deriving DecidableEq,Inhabited
def q9 (x:Halt):D:=.agg [.int x.order,.int x.fr,.int x.to]
@[simp] theorem apG (x:Halt):(q9 x).cells=[.int x.order,.int x.fr,.int x.to]:=_root_.id rfl
@[simp] theorem atw (x:Halt):D.agg [.int x.order,.int x.fr,.int x.to]=q9 x:=_root_.id rfl
@[simp] theorem apD (x:Halt):(q9 x).c 0=.int x.order:=_root_.id rfl
@[simp] theorem apE (x:Halt):(q9 x).c 1=.int x.fr:=_root_.id rfl
@[simp] theorem apF (x:Halt):(q9 x).c 2=.int x.to:=_root_.id rfl
def halts (l:List Halt):D:=.list (l.map q9)
@[simp] theorem asA (l:List Halt):(halts l).l=l.map q9:=_root_.id rfl
abbrev RA:Ty:=.agg [.int .i64,.int .i64,.int .i64]
def Halt.OK (x:Halt):Prop:=aT x.order∧aT x.fr∧aT x.to
theorem afi {d:D}(h:DTy RA d):∃x:Halt,d=q9 x∧x.OK:=by
 obtain⟨ds,rfl,hs⟩:=h.agg_inv;obtain⟨d0,ds,rfl,h0,hs⟩:=hs.cons_inv;obtain⟨d1,ds,rfl,h1,hs⟩:=hs.cons_inv;obtain⟨d2,ds,rfl,h2,hs⟩:=hs.cons_inv;obtain rfl:=hs.nil_inv;obtain⟨n0,rfl,b0⟩:=h0.i64_inv;obtain⟨n1,rfl,b1⟩:=h1.i64_inv;obtain⟨n2,rfl,b2⟩:=h2.i64_inv;exact⟨⟨n0,n1,n2⟩,rfl,⟨b0,b1,b2⟩⟩
theorem afj {d:D}(h:DTy (.slice RA) d):∃l:List Halt,d=halts l∧l.length≤maxLen∧∀y,y∈l→Halt.OK y:=by
 obtain⟨xs,rfl,hm,hx⟩:=h.slice_inv;obtain⟨l,rfl,hl⟩:=j1 (enc:=q9) (P:=Halt.OK) fun x hh=>afi (hx x hh);exact⟨l,rfl,by simpa using hm,hl⟩
structure Choice where
 ask:Int
 by_:Int
 whole:Bool
 deriving DecidableEq,Inhabited
def sU (x:Choice):D:=.agg [.int x.ask,.int x.by_,.bool x.whole]
@[simp] theorem apd (x:Choice):(sU x).cells=[.int x.ask,.int x.by_,.bool x.whole]:=_root_.id rfl
@[simp] theorem atq (x:Choice):D.agg [.int x.ask,.int x.by_,.bool x.whole]=sU x:=_root_.id rfl
@[simp] theorem apb (x:Choice):(sU x).c 0=.int x.ask:=_root_.id rfl
@[simp] theorem apc (x:Choice):(sU x).c 1=.int x.by_:=_root_.id rfl
def choices (l:List Choice):D:=.list (l.map sU)
@[simp] theorem aqY (l:List Choice):(choices l).l=l.map sU:=_root_.id rfl
abbrev Rv:Ty:=.agg [.int .i64,.int .i64,.bool]
def Choice.OK (x:Choice):Prop:=aT x.ask∧aT x.by_
theorem abR {d:D}(h:DTy Rv d):∃x:Choice,d=sU x∧x.OK:=by
 obtain⟨ds,rfl,hs⟩:=h.agg_inv;obtain⟨d0,ds,rfl,h0,hs⟩:=hs.cons_inv;obtain⟨d1,ds,rfl,h1,hs⟩:=hs.cons_inv;obtain⟨d2,ds,rfl,h2,hs⟩:=hs.cons_inv;obtain rfl:=hs.nil_inv;obtain⟨n0,rfl,b0⟩:=h0.i64_inv;obtain⟨n1,rfl,b1⟩:=h1.i64_inv;obtain⟨n2,rfl⟩:=h2.bool_inv;exact⟨⟨n0,n1,n2⟩,rfl,⟨b0,b1⟩⟩
theorem abS {d:D}(h:DTy (.slice Rv) d):∃l:List Choice,d=choices l∧l.length≤maxLen∧∀y,y∈l→Choice.OK y:=by
 obtain⟨xs,rfl,hm,hx⟩:=h.slice_inv;obtain⟨l,rfl,hl⟩:=j1 (enc:=sU) (P:=Choice.OK) fun x hh=>abR (hx x hh);exact⟨l,rfl,by simpa using hm,hl⟩
structure Rule where
 ask:Int
 term:Tm
 deriving Inhabited
def re (x:Rule):D:=.agg [.int x.ask,.int x.term.op,.int x.term.n,.list (x.term.args.map dQ)]
@[simp] theorem ap2 (x:Rule):(re x).cells=[.int x.ask,.int x.term.op,.int x.term.n,.list (x.term.args.map dQ)]:=_root_.id rfl
@[simp] theorem atA (x:Rule):D.agg [.int x.ask,.int x.term.op,.int x.term.n,.list (x.term.args.map dQ)]=re x:=_root_.id rfl
@[simp] theorem ap1 (x:Rule):(re x).c 0=.int x.ask:=_root_.id rfl
def rules (l:List Rule):D:=.list (l.map re)
@[simp] theorem aul (l:List Rule):(rules l).l=l.map re:=_root_.id rfl
abbrev RE:Ty:=.agg [.int .i64,.int .i64,.int .i64,.slice .trm]
def Rule.OK (x:Rule):Prop:=aT x.ask∧Tm.OK x.term
theorem alC {d:D}(h:DTy RE d):∃x:Rule,d=re x∧x.OK:=by
 obtain⟨ds,rfl,hs⟩:=h.agg_inv;obtain⟨d0,ds,rfl,h0,hs⟩:=hs.cons_inv;obtain⟨d1,ds,rfl,h1,hs⟩:=hs.cons_inv;obtain⟨d2,ds,rfl,h2,hs⟩:=hs.cons_inv;obtain⟨d3,ds,rfl,h3,hs⟩:=hs.cons_inv;obtain rfl:=hs.nil_inv;obtain⟨n0,rfl,b0⟩:=h0.i64_inv;obtain⟨n1,rfl,b1⟩:=h1.i64_inv;obtain⟨n2,rfl,b2⟩:=h2.i64_inv;obtain⟨n3,rfl,b3,c3⟩:=h3.trms_inv;exact⟨⟨n0,.mk n1 n2 n3⟩,rfl,⟨b0,.mk _ _ _ b1 b2 b3 c3⟩⟩
theorem alD {d:D}(h:DTy (.slice RE) d):∃l:List Rule,d=rules l∧l.length≤maxLen∧∀y,y∈l→Rule.OK y:=by
 obtain⟨xs,rfl,hm,hx⟩:=h.slice_inv;obtain⟨l,rfl,hl⟩:=j1 (enc:=re) (P:=Rule.OK) fun x hh=>alC (hx x hh);exact⟨l,rfl,by simpa using hm,hl⟩
structure Order where
 name:ByteArray
 accepts:Bool
 choices:List Choice
 rules:List Rule
 deriving Inhabited
def kl (x:Order):D:=.agg [str x.name,.bool x.accepts,choices x.choices,rules x.rules]
@[simp] theorem apL (x:Order):(kl x).cells=[str x.name,.bool x.accepts,choices x.choices,rules x.rules]:=_root_.id rfl
@[simp] theorem atx (x:Order):D.agg [str x.name,.bool x.accepts,choices x.choices,rules x.rules]=kl x:=_root_.id rfl
@[simp] theorem aqD (x:Order):lL 4 (kl x)=kl x:=_root_.id rfl
@[simp] theorem apH (x:Order):(kl x).c 0=str x.name:=_root_.id rfl
@[simp] theorem apI (x:Order):(kl x).c 1=.bool x.accepts:=_root_.id rfl
@[simp] theorem apJ (x:Order):(kl x).c 2=choices x.choices:=_root_.id rfl
@[simp] theorem apK (x:Order):(kl x).c 3=rules x.rules:=_root_.id rfl
def orders (l:List Order):D:=.list (l.map kl)
@[simp] theorem atP (l:List Order):(orders l).l=l.map kl:=_root_.id rfl
abbrev RB:Ty:=.agg [.str,.bool,.slice Rv,.slice RE]
def Order.OK (x:Order):Prop:=(x.choices.length≤maxLen∧∀y,y∈x.choices→Choice.OK y)∧(x.rules.length≤maxLen∧∀y,y∈x.rules→Rule.OK y)
theorem akd {d:D}(h:DTy RB d):∃x:Order,d=kl x∧x.OK:=by
 obtain⟨ds,rfl,hs⟩:=h.agg_inv;obtain⟨d0,ds,rfl,h0,hs⟩:=hs.cons_inv;obtain⟨d1,ds,rfl,h1,hs⟩:=hs.cons_inv;obtain⟨d2,ds,rfl,h2,hs⟩:=hs.cons_inv;obtain⟨d3,ds,rfl,h3,hs⟩:=hs.cons_inv;obtain rfl:=hs.nil_inv;obtain⟨n0,rfl⟩:=str_inv h0;obtain⟨n1,rfl⟩:=h1.bool_inv;obtain⟨n2,rfl,b2,c2⟩:=abS h2;obtain⟨n3,rfl,b3,c3⟩:=alD h3;exact⟨⟨n0,n1,n2,n3⟩,rfl,⟨⟨b2,c2⟩,⟨b3,c3⟩⟩⟩
theorem ake {d:D}(h:DTy (.slice RB) d):∃l:List Order,d=orders l∧l.length≤maxLen∧∀y,y∈l→Order.OK y:=by
 obtain⟨xs,rfl,hm,hx⟩:=h.slice_inv;obtain⟨l,rfl,hl⟩:=j1 (enc:=kl) (P:=Order.OK) fun x hh=>akd (hx x hh);exact⟨l,rfl,by simpa using hm,hl⟩
structure Realm where
 currencies:List ByteArray
 cities:List City
 groups:List Group
 firms:List Firm
 orders:List Order
 usances:List Usance
 rates:List Rate
 halts:List Halt
 deriving Inhabited
def bF (x:Realm):D:=.agg [strs x.currencies,xY x.cities,groups x.groups,firms x.firms,orders x.orders,usances x.usances,rates x.rates,halts x.halts]
@[simp] theorem ap0 (x:Realm):(bF x).cells=[strs x.currencies,xY x.cities,groups x.groups,firms x.firms,orders x.orders,usances x.usances,rates x.rates,halts x.halts]:=_root_.id rfl
@[simp] theorem atz (x:Realm):D.agg [strs x.currencies,xY x.cities,groups x.groups,firms x.firms,orders x.orders,usances x.usances,rates x.rates,halts x.halts]=bF x:=_root_.id rfl
@[simp] theorem aqE (x:Realm):lL 8 (bF x)=bF x:=_root_.id rfl
@[simp] theorem apS (x:Realm):(bF x).c 0=strs x.currencies:=_root_.id rfl
@[simp] theorem apT (x:Realm):(bF x).c 1=xY x.cities:=_root_.id rfl
@[simp] theorem apU (x:Realm):(bF x).c 2=groups x.groups:=_root_.id rfl
@[simp] theorem apV (x:Realm):(bF x).c 3=firms x.firms:=_root_.id rfl
@[simp] theorem apW (x:Realm):(bF x).c 4=orders x.orders:=_root_.id rfl
@[simp] theorem apX (x:Realm):(bF x).c 5=usances x.usances:=_root_.id rfl
@[simp] theorem apY (x:Realm):(bF x).c 6=rates x.rates:=_root_.id rfl
@[simp] theorem apZ (x:Realm):(bF x).c 7=halts x.halts:=_root_.id rfl
abbrev an1:Ty:=.agg [.slice .str,.slice Rw,.slice Rz,.slice Ry,.slice RB,.slice RG,.slice RD,.slice RA]
def Realm.OK (x:Realm):Prop:=x.currencies.length≤maxLen∧(x.cities.length≤maxLen∧∀y,y∈x.cities→City.OK y)∧(x.groups.length≤maxLen∧∀y,y∈x.groups→Group.OK y)∧(x.firms.length≤maxLen∧∀y,y∈x.firms→Firm.OK y)∧(x.orders.length≤maxLen∧∀y,y∈x.orders→Order.OK y)∧(x.usances.length≤maxLen∧∀y,y∈x.usances→Usance.OK y)∧(x.rates.length≤maxLen∧∀y,y∈x.rates→Rate.OK y)∧(x.halts.length≤maxLen∧∀y,y∈x.halts→Halt.OK y)
theorem alb {d:D}(h:DTy an1 d):∃x:Realm,d=bF x∧x.OK:=by
 obtain⟨ds,rfl,hs⟩:=h.agg_inv;obtain⟨d0,ds,rfl,h0,hs⟩:=hs.cons_inv;obtain⟨d1,ds,rfl,h1,hs⟩:=hs.cons_inv;obtain⟨d2,ds,rfl,h2,hs⟩:=hs.cons_inv;obtain⟨d3,ds,rfl,h3,hs⟩:=hs.cons_inv;obtain⟨d4,ds,rfl,h4,hs⟩:=hs.cons_inv;obtain⟨d5,ds,rfl,h5,hs⟩:=hs.cons_inv;obtain⟨d6,ds,rfl,h6,hs⟩:=hs.cons_inv;obtain⟨d7,ds,rfl,h7,hs⟩:=hs.cons_inv;obtain rfl:=hs.nil_inv;obtain⟨n0,rfl,b0⟩:=al6 h0;obtain⟨n1,rfl,b1,c1⟩:=abU h1;obtain⟨n2,rfl,b2,c2⟩:=aeG h2;obtain⟨n3,rfl,b3,c3⟩:=adD h3;obtain⟨n4,rfl,b4,c4⟩:=ake h4;obtain⟨n5,rfl,b5,c5⟩:=an9 h5;obtain⟨n6,rfl,b6,c6⟩:=ak3 h6;obtain⟨n7,rfl,b7,c7⟩:=afj h7;exact⟨⟨n0,n1,n2,n3,n4,n5,n6,n7⟩,rfl,⟨b0,⟨b1,c1⟩,⟨b2,c2⟩,⟨b3,c3⟩,⟨b4,c4⟩,⟨b5,c5⟩,⟨b6,c6⟩,⟨b7,c7⟩⟩⟩
structure Tenor where
 kind:Int
 n:Int
 unit:Int
 deriving DecidableEq,Inhabited
def Bk (x:Tenor):D:=.agg [.int x.kind,.int x.n,.int x.unit]
@[simp] theorem aqp (x:Tenor):(Bk x).cells=[.int x.kind,.int x.n,.int x.unit]:=_root_.id rfl
@[simp] theorem atE (x:Tenor):D.agg [.int x.kind,.int x.n,.int x.unit]=Bk x:=_root_.id rfl
@[simp] theorem aqm (x:Tenor):(Bk x).c 0=.int x.kind:=_root_.id rfl
@[simp] theorem aqn (x:Tenor):(Bk x).c 1=.int x.n:=_root_.id rfl
@[simp] theorem aqo (x:Tenor):(Bk x).c 2=.int x.unit:=_root_.id rfl
def Tenor.OK (x:Tenor):Prop:=aT x.kind∧aT x.n∧aT x.unit
structure Bill where
 drawer:Int
 drawee:Int
 payee:Int
 sum:Int
 currency:Int
 tenor:Tenor
 day:Int
 city:Int
 pay:Int
 need:Int
 rate:Int
 flags:Int
 parts:Int
 deriving DecidableEq,Inhabited
def fR (x:Bill):D:=.agg [.int x.drawer,.int x.drawee,.int x.payee,.int x.sum,.int x.currency,.int x.tenor.kind,.int x.tenor.n,.int x.tenor.unit,.int x.day,.int x.city,.int x.pay,.int x.need,.int x.rate,.int x.flags,.int x.parts]
@[simp] theorem aoY (x:Bill):(fR x).cells=[.int x.drawer,.int x.drawee,.int x.payee,.int x.sum,.int x.currency,.int x.tenor.kind,.int x.tenor.n,.int x.tenor.unit,.int x.day,.int x.city,.int x.pay,.int x.need,.int x.rate,.int x.flags,.int x.parts]:=_root_.id rfl
@[simp] theorem atn (x:Bill):D.agg [.int x.drawer,.int x.drawee,.int x.payee,.int x.sum,.int x.currency,.int x.tenor.kind,.int x.tenor.n,.int x.tenor.unit,.int x.day,.int x.city,.int x.pay,.int x.need,.int x.rate,.int x.flags,.int x.parts]=fR x:=_root_.id rfl
@[simp] theorem aqB (x:Bill):lL 15 (fR x)=fR x:=_root_.id rfl
@[simp] theorem atQ (x:Bill)(a0 a1 a2 a3 a4 a5 a6 a7 a8 a9 u3 u4 u5 u6 u7:D):D.agg (eM [a0,a1,a2,a3,a4,a5,a6,a7,a8,a9,u3,u4,u5,u6,u7] 0 [.int x.drawer,.int x.drawee,.int x.payee,.int x.sum,.int x.currency,.int x.tenor.kind,.int x.tenor.n,.int x.tenor.unit,.int x.day,.int x.city,.int x.pay,.int x.need,.int x.rate,.int x.flags,.int x.parts])=fR x:=_root_.id rfl
@[simp] theorem aoJ (x:Bill):(fR x).c 0=.int x.drawer:=_root_.id rfl
@[simp] theorem aoK (x:Bill):(fR x).c 1=.int x.drawee:=_root_.id rfl
@[simp] theorem aoQ (x:Bill):(fR x).c 2=.int x.payee:=_root_.id rfl
@[simp] theorem aoR (x:Bill):(fR x).c 3=.int x.sum:=_root_.id rfl
@[simp] theorem aoS (x:Bill):(fR x).c 4=.int x.currency:=_root_.id rfl
@[simp] theorem aoT (x:Bill):(fR x).c 5=.int x.tenor.kind:=_root_.id rfl
@[simp] theorem aoU (x:Bill):(fR x).c 6=.int x.tenor.n:=_root_.id rfl
@[simp] theorem aoV (x:Bill):(fR x).c 7=.int x.tenor.unit:=_root_.id rfl
@[simp] theorem aoW (x:Bill):(fR x).c 8=.int x.day:=_root_.id rfl
@[simp] theorem aoX (x:Bill):(fR x).c 9=.int x.city:=_root_.id rfl
@[simp] theorem aoL (x:Bill):(fR x).c 10=.int x.pay:=_root_.id rfl
@[simp] theorem aoM (x:Bill):(fR x).c 11=.int x.need:=_root_.id rfl
@[simp] theorem aoN (x:Bill):(fR x).c 12=.int x.rate:=_root_.id rfl
@[simp] theorem aoO (x:Bill):(fR x).c 13=.int x.flags:=_root_.id rfl
@[simp] theorem aoP (x:Bill):(fR x).c 14=.int x.parts:=_root_.id rfl
def Bill.OK (x:Bill):Prop:=aT x.drawer∧aT x.drawee∧aT x.payee∧aT x.sum∧aT x.currency∧Tenor.OK x.tenor∧aT x.day∧aT x.city∧aT x.pay∧aT x.need∧aT x.rate∧aT x.flags∧aT x.parts
structure Sign where
 kind:Int
 part:Int
 who:Int
 for_:Int
 to:Int
 sum:Int
 day:Int
 city:Int
 flags:Int
 deriving DecidableEq,Inhabited
def jT (x:Sign):D:=.agg [.int x.kind,.int x.part,.int x.who,.int x.for_,.int x.to,.int x.sum,.int x.day,.int x.city,.int x.flags]
@[simp] theorem aqg (x:Sign):(jT x).cells=[.int x.kind,.int x.part,.int x.who,.int x.for_,.int x.to,.int x.sum,.int x.day,.int x.city,.int x.flags]:=_root_.id rfl
@[simp] theorem atD (x:Sign):D.agg [.int x.kind,.int x.part,.int x.who,.int x.for_,.int x.to,.int x.sum,.int x.day,.int x.city,.int x.flags]=jT x:=_root_.id rfl
@[simp] theorem aqF (x:Sign):lL 9 (jT x)=jT x:=_root_.id rfl
@[simp] theorem ap7 (x:Sign):(jT x).c 0=.int x.kind:=_root_.id rfl
@[simp] theorem ap8 (x:Sign):(jT x).c 1=.int x.part:=_root_.id rfl
@[simp] theorem ap9 (x:Sign):(jT x).c 2=.int x.who:=_root_.id rfl
@[simp] theorem aqa (x:Sign):(jT x).c 3=.int x.for_:=_root_.id rfl
@[simp] theorem aqb (x:Sign):(jT x).c 4=.int x.to:=_root_.id rfl
@[simp] theorem aqc (x:Sign):(jT x).c 5=.int x.sum:=_root_.id rfl
@[simp] theorem aqd (x:Sign):(jT x).c 6=.int x.day:=_root_.id rfl
@[simp] theorem aqe (x:Sign):(jT x).c 7=.int x.city:=_root_.id rfl
@[simp] theorem aqf (x:Sign):(jT x).c 8=.int x.flags:=_root_.id rfl
def signs (l:List Sign):D:=.list (l.map jT)
@[simp] theorem auw (l:List Sign):(signs l).l=l.map jT:=_root_.id rfl
@[simp] theorem auv (l:List Sign):(signs l).cells=[signs l]:=_root_.id rfl
abbrev RF:Ty:=.agg [.int .i64,.int .i64,.int .i64,.int .i64,.int .i64,.int .i64,.int .i64,.int .i64,.int .i64]
def Sign.OK (x:Sign):Prop:=aT x.kind∧aT x.part∧aT x.who∧aT x.for_∧aT x.to∧aT x.sum∧aT x.day∧aT x.city∧aT x.flags
theorem al0 {d:D}(h:DTy RF d):∃x:Sign,d=jT x∧x.OK:=by
 obtain⟨ds,rfl,hs⟩:=h.agg_inv;obtain⟨d0,ds,rfl,h0,hs⟩:=hs.cons_inv;obtain⟨d1,ds,rfl,h1,hs⟩:=hs.cons_inv;obtain⟨d2,ds,rfl,h2,hs⟩:=hs.cons_inv;obtain⟨d3,ds,rfl,h3,hs⟩:=hs.cons_inv;obtain⟨d4,ds,rfl,h4,hs⟩:=hs.cons_inv;obtain⟨d5,ds,rfl,h5,hs⟩:=hs.cons_inv;obtain⟨d6,ds,rfl,h6,hs⟩:=hs.cons_inv;obtain⟨d7,ds,rfl,h7,hs⟩:=hs.cons_inv;obtain⟨d8,ds,rfl,h8,hs⟩:=hs.cons_inv;obtain rfl:=hs.nil_inv;obtain⟨n0,rfl,b0⟩:=h0.i64_inv;obtain⟨n1,rfl,b1⟩:=h1.i64_inv;obtain⟨n2,rfl,b2⟩:=h2.i64_inv;obtain⟨n3,rfl,b3⟩:=h3.i64_inv;obtain⟨n4,rfl,b4⟩:=h4.i64_inv;obtain⟨n5,rfl,b5⟩:=h5.i64_inv;obtain⟨n6,rfl,b6⟩:=h6.i64_inv;obtain⟨n7,rfl,b7⟩:=h7.i64_inv;obtain⟨n8,rfl,b8⟩:=h8.i64_inv;exact⟨⟨n0,n1,n2,n3,n4,n5,n6,n7,n8⟩,rfl,⟨b0,b1,b2,b3,b4,b5,b6,b7,b8⟩⟩
theorem al3 {d:D}(h:DTy (.slice RF) d):∃l:List Sign,d=signs l∧l.length≤maxLen∧∀y,y∈l→Sign.OK y:=by
 obtain⟨xs,rfl,hm,hx⟩:=h.slice_inv;obtain⟨l,rfl,hl⟩:=j1 (enc:=jT) (P:=Sign.OK) fun x hh=>al0 (hx x hh);exact⟨l,rfl,by simpa using hm,hl⟩
structure Alter where
 at_:Int
 sum:Int
 deriving DecidableEq,Inhabited
def oy (x:Alter):D:=.agg [.int x.at_,.int x.sum]
@[simp] theorem aoI (x:Alter):(oy x).cells=[.int x.at_,.int x.sum]:=_root_.id rfl
@[simp] theorem atm (x:Alter):D.agg [.int x.at_,.int x.sum]=oy x:=_root_.id rfl
@[simp] theorem aoG (x:Alter):(oy x).c 0=.int x.at_:=_root_.id rfl
@[simp] theorem aoH (x:Alter):(oy x).c 1=.int x.sum:=_root_.id rfl
def alters (l:List Alter):D:=.list (l.map oy)
@[simp] theorem aqI (l:List Alter):(alters l).l=l.map oy:=_root_.id rfl
@[simp] theorem aqH (l:List Alter):(alters l).cells=[alters l]:=_root_.id rfl
abbrev Ru:Ty:=.agg [.int .i64,.int .i64]
def Alter.OK (x:Alter):Prop:=aT x.at_∧aT x.sum
theorem aa0 {d:D}(h:DTy Ru d):∃x:Alter,d=oy x∧x.OK:=by
 obtain⟨ds,rfl,hs⟩:=h.agg_inv;obtain⟨d0,ds,rfl,h0,hs⟩:=hs.cons_inv;obtain⟨d1,ds,rfl,h1,hs⟩:=hs.cons_inv;obtain rfl:=hs.nil_inv;obtain⟨n0,rfl,b0⟩:=h0.i64_inv;obtain⟨n1,rfl,b1⟩:=h1.i64_inv;exact⟨⟨n0,n1⟩,rfl,⟨b0,b1⟩⟩
theorem aa1 {d:D}(h:DTy (.slice Ru) d):∃l:List Alter,d=alters l∧l.length≤maxLen∧∀y,y∈l→Alter.OK y:=by
 obtain⟨xs,rfl,hm,hx⟩:=h.slice_inv;obtain⟨l,rfl,hl⟩:=j1 (enc:=oy) (P:=Alter.OK) fun x hh=>aa0 (hx x hh);exact⟨l,rfl,by simpa using hm,hl⟩
structure Act where
 kind:Int
 who:Int
 to:Int
 part:Int
 at_:Int
 sum:Int
 day:Int
 city:Int
 form:Int
 deriving DecidableEq,Inhabited
def jx (x:Act):D:=.agg [.int x.kind,.int x.who,.int x.to,.int x.part,.int x.at_,.int x.sum,.int x.day,.int x.city,.int x.form]
@[simp] theorem aoF (x:Act):(jx x).cells=[.int x.kind,.int x.who,.int x.to,.int x.part,.int x.at_,.int x.sum,.int x.day,.int x.city,.int x.form]:=_root_.id rfl
@[simp] theorem atl (x:Act):D.agg [.int x.kind,.int x.who,.int x.to,.int x.part,.int x.at_,.int x.sum,.int x.day,.int x.city,.int x.form]=jx x:=_root_.id rfl
@[simp] theorem aqA (x:Act):lL 9 (jx x)=jx x:=_root_.id rfl
@[simp] theorem aow (x:Act):(jx x).c 0=.int x.kind:=_root_.id rfl
@[simp] theorem aox (x:Act):(jx x).c 1=.int x.who:=_root_.id rfl
@[simp] theorem aoy (x:Act):(jx x).c 2=.int x.to:=_root_.id rfl
@[simp] theorem aoz (x:Act):(jx x).c 3=.int x.part:=_root_.id rfl
@[simp] theorem aoA (x:Act):(jx x).c 4=.int x.at_:=_root_.id rfl
@[simp] theorem aoB (x:Act):(jx x).c 5=.int x.sum:=_root_.id rfl
@[simp] theorem aoC (x:Act):(jx x).c 6=.int x.day:=_root_.id rfl
@[simp] theorem aoD (x:Act):(jx x).c 7=.int x.city:=_root_.id rfl
@[simp] theorem aoE (x:Act):(jx x).c 8=.int x.form:=_root_.id rfl
def acts (l:List Act):D:=.list (l.map jx)
@[simp] theorem aqv (l:List Act):(acts l).l=l.map jx:=_root_.id rfl
@[simp] theorem aqu (l:List Act):(acts l).cells=[acts l]:=_root_.id rfl
abbrev Rt:Ty:=.agg [.int .i64,.int .i64,.int .i64,.int .i64,.int .i64,.int .i64,.int .i64,.int .i64,.int .i64]
def Act.OK (x:Act):Prop:=aT x.kind∧aT x.who∧aT x.to∧aT x.part∧aT x.at_∧aT x.sum∧aT x.day∧aT x.city∧aT x.form
theorem aaR {d:D}(h:DTy Rt d):∃x:Act,d=jx x∧x.OK:=by
 obtain⟨ds,rfl,hs⟩:=h.agg_inv;obtain⟨d0,ds,rfl,h0,hs⟩:=hs.cons_inv;obtain⟨d1,ds,rfl,h1,hs⟩:=hs.cons_inv;obtain⟨d2,ds,rfl,h2,hs⟩:=hs.cons_inv;obtain⟨d3,ds,rfl,h3,hs⟩:=hs.cons_inv;obtain⟨d4,ds,rfl,h4,hs⟩:=hs.cons_inv;obtain⟨d5,ds,rfl,h5,hs⟩:=hs.cons_inv;obtain⟨d6,ds,rfl,h6,hs⟩:=hs.cons_inv;obtain⟨d7,ds,rfl,h7,hs⟩:=hs.cons_inv;obtain⟨d8,ds,rfl,h8,hs⟩:=hs.cons_inv;obtain rfl:=hs.nil_inv;obtain⟨n0,rfl,b0⟩:=h0.i64_inv;obtain⟨n1,rfl,b1⟩:=h1.i64_inv;obtain⟨n2,rfl,b2⟩:=h2.i64_inv;obtain⟨n3,rfl,b3⟩:=h3.i64_inv;obtain⟨n4,rfl,b4⟩:=h4.i64_inv;obtain⟨n5,rfl,b5⟩:=h5.i64_inv;obtain⟨n6,rfl,b6⟩:=h6.i64_inv;obtain⟨n7,rfl,b7⟩:=h7.i64_inv;obtain⟨n8,rfl,b8⟩:=h8.i64_inv;exact⟨⟨n0,n1,n2,n3,n4,n5,n6,n7,n8⟩,rfl,⟨b0,b1,b2,b3,b4,b5,b6,b7,b8⟩⟩
theorem aaS {d:D}(h:DTy (.slice Rt) d):∃l:List Act,d=acts l∧l.length≤maxLen∧∀y,y∈l→Act.OK y:=by
 obtain⟨xs,rfl,hm,hx⟩:=h.slice_inv;obtain⟨l,rfl,hl⟩:=j1 (enc:=jx) (P:=Act.OK) fun x hh=>aaR (hx x hh);exact⟨l,rfl,by simpa using hm,hl⟩
structure Fact where
 kind:Int
 at_:Int
 n:Int
 deriving DecidableEq,Inhabited
def jS (x:Fact):D:=.agg [.int x.kind,.int x.at_,.int x.n]
@[simp] theorem apo (x:Fact):(jS x).cells=[.int x.kind,.int x.at_,.int x.n]:=_root_.id rfl
@[simp] theorem ats (x:Fact):D.agg [.int x.kind,.int x.at_,.int x.n]=jS x:=_root_.id rfl
@[simp] theorem apl (x:Fact):(jS x).c 0=.int x.kind:=_root_.id rfl
@[simp] theorem apm (x:Fact):(jS x).c 1=.int x.at_:=_root_.id rfl
@[simp] theorem apn (x:Fact):(jS x).c 2=.int x.n:=_root_.id rfl
def facts (l:List Fact):D:=.list (l.map jS)
@[simp] theorem asc (l:List Fact):(facts l).l=l.map jS:=_root_.id rfl
@[simp] theorem asb (l:List Fact):(facts l).cells=[facts l]:=_root_.id rfl
abbrev Rx:Ty:=.agg [.int .i64,.int .i64,.int .i64]
def Fact.OK (x:Fact):Prop:=aT x.kind∧aT x.at_∧aT x.n
theorem adt {d:D}(h:DTy Rx d):∃x:Fact,d=jS x∧x.OK:=by
 obtain⟨ds,rfl,hs⟩:=h.agg_inv;obtain⟨d0,ds,rfl,h0,hs⟩:=hs.cons_inv;obtain⟨d1,ds,rfl,h1,hs⟩:=hs.cons_inv;obtain⟨d2,ds,rfl,h2,hs⟩:=hs.cons_inv;obtain rfl:=hs.nil_inv;obtain⟨n0,rfl,b0⟩:=h0.i64_inv;obtain⟨n1,rfl,b1⟩:=h1.i64_inv;obtain⟨n2,rfl,b2⟩:=h2.i64_inv;exact⟨⟨n0,n1,n2⟩,rfl,⟨b0,b1,b2⟩⟩
theorem adv {d:D}(h:DTy (.slice Rx) d):∃l:List Fact,d=facts l∧l.length≤maxLen∧∀y,y∈l→Fact.OK y:=by
 obtain⟨xs,rfl,hm,hx⟩:=h.slice_inv;obtain⟨l,rfl,hl⟩:=j1 (enc:=jS) (P:=Fact.OK) fun x hh=>adt (hx x hh);exact⟨l,rfl,by simpa using hm,hl⟩
structure File where
 bill:Bill
 signs:List Sign
 alters:List Alter
 acts:List Act
 facts:List Fact
 deriving Inhabited
def dg (x:File):D:=.agg [.int x.bill.drawer,.int x.bill.drawee,.int x.bill.payee,.int x.bill.sum,.int x.bill.currency,.int x.bill.tenor.kind,.int x.bill.tenor.n,.int x.bill.tenor.unit,.int x.bill.day,.int x.bill.city,.int x.bill.pay,.int x.bill.need,.int x.bill.rate,.int x.bill.flags,.int x.bill.parts,signs x.signs,alters x.alters,acts x.acts,facts x.facts]
@[simp] theorem apw (x:File):(dg x).cells=[.int x.bill.drawer,.int x.bill.drawee,.int x.bill.payee,.int x.bill.sum,.int x.bill.currency,.int x.bill.tenor.kind,.int x.bill.tenor.n,.int x.bill.tenor.unit,.int x.bill.day,.int x.bill.city,.int x.bill.pay,.int x.bill.need,.int x.bill.rate,.int x.bill.flags,.int x.bill.parts,signs x.signs,alters x.alters,acts x.acts,facts x.facts]:=_root_.id rfl
@[simp] theorem att (x:File):D.agg [.int x.bill.drawer,.int x.bill.drawee,.int x.bill.payee,.int x.bill.sum,.int x.bill.currency,.int x.bill.tenor.kind,.int x.bill.tenor.n,.int x.bill.tenor.unit,.int x.bill.day,.int x.bill.city,.int x.bill.pay,.int x.bill.need,.int x.bill.rate,.int x.bill.flags,.int x.bill.parts,signs x.signs,alters x.alters,acts x.acts,facts x.facts]=dg x:=_root_.id rfl
@[simp] theorem aqC (x:File):lL 19 (dg x)=dg x:=_root_.id rfl
@[simp] theorem atT (x:File)(a0 a1 a2 a3 a4 a5 a6 a7 a8 a9 u3 u4 u5 u6 u7 Ay Az AA AB:D):D.agg (eM [a0,a1,a2,a3,a4,a5,a6,a7,a8,a9,u3,u4,u5,u6,u7,Ay,Az,AA,AB] 0 [.int x.bill.drawer,.int x.bill.drawee,.int x.bill.payee,.int x.bill.sum,.int x.bill.currency,.int x.bill.tenor.kind,.int x.bill.tenor.n,.int x.bill.tenor.unit,.int x.bill.day,.int x.bill.city,.int x.bill.pay,.int x.bill.need,.int x.bill.rate,.int x.bill.flags,.int x.bill.parts,signs x.signs,alters x.alters,acts x.acts,facts x.facts])=dg x:=_root_.id rfl
@[simp] theorem apv (x:File):(dg x).c 8=.int x.bill.day:=_root_.id rfl
@[simp] theorem apq (x:File):(dg x).c 14=.int x.bill.parts:=_root_.id rfl
@[simp] theorem apr (x:File):(dg x).c 15=signs x.signs:=_root_.id rfl
@[simp] theorem aps (x:File):(dg x).c 16=alters x.alters:=_root_.id rfl
@[simp] theorem apt (x:File):(dg x).c 17=acts x.acts:=_root_.id rfl
@[simp] theorem apu (x:File):(dg x).c 18=facts x.facts:=_root_.id rfl
def File.OK (x:File):Prop:=Bill.OK x.bill∧(x.signs.length≤maxLen∧∀y,y∈x.signs→Sign.OK y)∧(x.alters.length≤maxLen∧∀y,y∈x.alters→Alter.OK y)∧(x.acts.length≤maxLen∧∀y,y∈x.acts→Act.OK y)∧(x.facts.length≤maxLen∧∀y,y∈x.facts→Fact.OK y)
structure Case where
 file:File
 sign:Int
 holder:Int
 defence:Int
 due:Int
 day:Int
 deriving Inhabited
def cD (x:Case):D:=.agg [.int x.file.bill.drawer,.int x.file.bill.drawee,.int x.file.bill.payee,.int x.file.bill.sum,.int x.file.bill.currency,.int x.file.bill.tenor.kind,.int x.file.bill.tenor.n,.int x.file.bill.tenor.unit,.int x.file.bill.day,.int x.file.bill.city,.int x.file.bill.pay,.int x.file.bill.need,.int x.file.bill.rate,.int x.file.bill.flags,.int x.file.bill.parts,signs x.file.signs,alters x.file.alters,acts x.file.acts,facts x.file.facts,.int x.sign,.int x.holder,.int x.defence,.int x.due,.int x.day]
@[simp] theorem ao7 (x:Case):(cD x).cells=[.int x.file.bill.drawer,.int x.file.bill.drawee,.int x.file.bill.payee,.int x.file.bill.sum,.int x.file.bill.currency,.int x.file.bill.tenor.kind,.int x.file.bill.tenor.n,.int x.file.bill.tenor.unit,.int x.file.bill.day,.int x.file.bill.city,.int x.file.bill.pay,.int x.file.bill.need,.int x.file.bill.rate,.int x.file.bill.flags,.int x.file.bill.parts,signs x.file.signs,alters x.file.alters,acts x.file.acts,facts x.file.facts,.int x.sign,.int x.holder,.int x.defence,.int x.due,.int x.day]:=_root_.id rfl
@[simp] theorem ato (x:Case):D.agg [.int x.file.bill.drawer,.int x.file.bill.drawee,.int x.file.bill.payee,.int x.file.bill.sum,.int x.file.bill.currency,.int x.file.bill.tenor.kind,.int x.file.bill.tenor.n,.int x.file.bill.tenor.unit,.int x.file.bill.day,.int x.file.bill.city,.int x.file.bill.pay,.int x.file.bill.need,.int x.file.bill.rate,.int x.file.bill.flags,.int x.file.bill.parts,signs x.file.signs,alters x.file.alters,acts x.file.acts,facts x.file.facts,.int x.sign,.int x.holder,.int x.defence,.int x.due,.int x.day]=cD x:=_root_.id rfl
@[simp] theorem aaZ (x:Case):lL 24 (cD x)=cD x:=_root_.id rfl
@[simp] theorem akf (x:Case)(a0 a1 a2 a3 a4 a5 a6 a7 a8 a9 u3 u4 u5 u6 u7 Ay Az AA AB a19 a20 a21 a22 a23:D):D.agg (eM [a0,a1,a2,a3,a4,a5,a6,a7,a8,a9,u3,u4,u5,u6,u7,Ay,Az,AA,AB,a19,a20,a21,a22,a23] 0 [.int x.file.bill.drawer,.int x.file.bill.drawee,.int x.file.bill.payee,.int x.file.bill.sum,.int x.file.bill.currency,.int x.file.bill.tenor.kind,.int x.file.bill.tenor.n,.int x.file.bill.tenor.unit,.int x.file.bill.day,.int x.file.bill.city,.int x.file.bill.pay,.int x.file.bill.need,.int x.file.bill.rate,.int x.file.bill.flags,.int x.file.bill.parts,signs x.file.signs,alters x.file.alters,acts x.file.acts,facts x.file.facts,.int x.sign,.int x.holder,.int x.defence,.int x.due,.int x.day])=cD x:=_root_.id rfl
@[simp] theorem ao6 (x:Case):(cD x).c 9=.int x.file.bill.city:=_root_.id rfl
@[simp] theorem aoZ (x:Case):(cD x).c 10=.int x.file.bill.pay:=_root_.id rfl
@[simp] theorem ao0 (x:Case):(cD x).c 15=signs x.file.signs:=_root_.id rfl
@[simp] theorem ao1 (x:Case):(cD x).c 19=.int x.sign:=_root_.id rfl
@[simp] theorem ao2 (x:Case):(cD x).c 20=.int x.holder:=_root_.id rfl
@[simp] theorem ao3 (x:Case):(cD x).c 21=.int x.defence:=_root_.id rfl
@[simp] theorem ao4 (x:Case):(cD x).c 22=.int x.due:=_root_.id rfl
@[simp] theorem ao5 (x:Case):(cD x).c 23=.int x.day:=_root_.id rfl
def cases(l:List Case):D:=.list (l.map cD)
abbrev an0:Ty:=.agg [.int .i64,.int .i64,.int .i64,.int .i64,.int .i64,.int .i64,.int .i64,.int .i64,.int .i64,.int .i64,.int .i64,.int .i64,.int .i64,.int .i64,.int .i64,.slice RF,.slice Ru,.slice Rt,.slice Rx,.int .i64,.int .i64,.int .i64,.int .i64,.int .i64]
def Case.OK (x:Case):Prop:=File.OK x.file∧aT x.sign∧aT x.holder∧aT x.defence∧aT x.due∧aT x.day
theorem abD {d:D}(h:DTy an0 d):∃x:Case,d=cD x∧x.OK:=by
 obtain⟨ds,rfl,hs⟩:=h.agg_inv;obtain⟨d0,ds,rfl,h0,hs⟩:=hs.cons_inv;obtain⟨d1,ds,rfl,h1,hs⟩:=hs.cons_inv;obtain⟨d2,ds,rfl,h2,hs⟩:=hs.cons_inv;obtain⟨d3,ds,rfl,h3,hs⟩:=hs.cons_inv;obtain⟨d4,ds,rfl,h4,hs⟩:=hs.cons_inv;obtain⟨d5,ds,rfl,h5,hs⟩:=hs.cons_inv;obtain⟨d6,ds,rfl,h6,hs⟩:=hs.cons_inv;obtain⟨d7,ds,rfl,h7,hs⟩:=hs.cons_inv;obtain⟨d8,ds,rfl,h8,hs⟩:=hs.cons_inv;obtain⟨d9,ds,rfl,h9,hs⟩:=hs.cons_inv;obtain⟨d10,ds,rfl,kq,hs⟩:=hs.cons_inv;obtain⟨d11,ds,rfl,kT,hs⟩:=hs.cons_inv;obtain⟨d12,ds,rfl,vu,hs⟩:=hs.cons_inv;obtain⟨d13,ds,rfl,h13,hs⟩:=hs.cons_inv;obtain⟨d14,ds,rfl,rl,hs⟩:=hs.cons_inv;obtain⟨d15,ds,rfl,kU,hs⟩:=hs.cons_inv;obtain⟨d16,ds,rfl,Gp,hs⟩:=hs.cons_inv;obtain⟨d17,ds,rfl,rn,hs⟩:=hs.cons_inv;obtain⟨d18,ds,rfl,p9,hs⟩:=hs.cons_inv;obtain⟨d19,ds,rfl,Gq,hs⟩:=hs.cons_inv;obtain⟨d20,ds,rfl,h20,hs⟩:=hs.cons_inv;obtain⟨d21,ds,rfl,h21,hs⟩:=hs.cons_inv;obtain⟨d22,ds,rfl,h22,hs⟩:=hs.cons_inv;obtain⟨d23,ds,rfl,h23,hs⟩:=hs.cons_inv;obtain rfl:=hs.nil_inv;obtain⟨n0,rfl,b0⟩:=h0.i64_inv;obtain⟨n1,rfl,b1⟩:=h1.i64_inv;obtain⟨n2,rfl,b2⟩:=h2.i64_inv;obtain⟨n3,rfl,b3⟩:=h3.i64_inv;obtain⟨n4,rfl,b4⟩:=h4.i64_inv;obtain⟨n5,rfl,b5⟩:=h5.i64_inv;obtain⟨n6,rfl,b6⟩:=h6.i64_inv;obtain⟨n7,rfl,b7⟩:=h7.i64_inv;obtain⟨n8,rfl,b8⟩:=h8.i64_inv;obtain⟨n9,rfl,b9⟩:=h9.i64_inv;obtain⟨n10,rfl,b10⟩:=kq.i64_inv;obtain⟨n11,rfl,b11⟩:=kT.i64_inv;obtain⟨n12,rfl,b12⟩:=vu.i64_inv;obtain⟨n13,rfl,b13⟩:=h13.i64_inv;obtain⟨n14,rfl,b14⟩:=rl.i64_inv;obtain⟨n15,rfl,b15,c15⟩:=al3 kU;obtain⟨n16,rfl,b16,c16⟩:=aa1 Gp;obtain⟨n17,rfl,b17,c17⟩:=aaS rn;obtain⟨n18,rfl,b18,mF⟩:=adv p9;obtain⟨n19,rfl,b19⟩:=Gq.i64_inv;obtain⟨n20,rfl,b20⟩:=h20.i64_inv;obtain⟨n21,rfl,b21⟩:=h21.i64_inv;obtain⟨n22,rfl,b22⟩:=h22.i64_inv;obtain⟨n23,rfl,b23⟩:=h23.i64_inv;exact⟨⟨⟨⟨n0,n1,n2,n3,n4,⟨n5,n6,n7⟩,n8,n9,n10,n11,n12,n13,n14⟩,n15,n16,n17,n18⟩,n19,n20,n21,n22,n23⟩,rfl,⟨⟨⟨b0,b1,b2,b3,b4,⟨b5,b6,b7⟩,b8,b9,b10,b11,b12,b13,b14⟩,⟨b15,c15⟩,⟨b16,c16⟩,⟨b17,c17⟩,⟨b18,mF⟩⟩,b19,b20,b21,b22,b23⟩⟩
structure Cell where
 known:Bool
 n:Int
 deriving DecidableEq,Inhabited
def cV (x:Cell):D:=.agg [.bool x.known,.int x.n]
@[simp] theorem apa (x:Cell):(cV x).cells=[.bool x.known,.int x.n]:=_root_.id rfl
@[simp] theorem atp (x:Cell):D.agg [.bool x.known,.int x.n]=cV x:=_root_.id rfl
@[simp] theorem ao8 (x:Cell):(cV x).c 0=.bool x.known:=_root_.id rfl
@[simp] theorem ao9 (x:Cell):(cV x).c 1=.int x.n:=_root_.id rfl
def cells (l:List Cell):D:=.list (l.map cV)
@[simp] theorem aqX (l:List Cell):(cells l).l=l.map cV:=_root_.id rfl
@[simp] theorem aqW (l:List Cell):(cells l).cells=[cells l]:=_root_.id rfl
structure Said where
 cell:Cell
 order:Int
 path:List Int
 err:Int
 deriving Inhabited
def KZ (x:Said):D:=.agg [.bool x.cell.known,.int x.cell.n,.int x.order,ints x.path,.int x.err]
@[simp] theorem ap3 (x:Said):(KZ x).cells=[.bool x.cell.known,.int x.cell.n,.int x.order,ints x.path,.int x.err]:=_root_.id rfl
@[simp] theorem auF (a0 x0:D):eM [a0] 0 [x0]=[x0]:=_root_.id rfl
@[simp] theorem auG (a0 a1 x0 x1:D):eM [a0,a1] 0 [x0,x1]=[x0,x1]:=_root_.id rfl
@[simp] theorem auH (a0 a1 a2 x0 x1 x2:D):eM [a0,a1,a2] 0 [x0,x1,x2]=[x0,x1,x2]:=_root_.id rfl
@[simp] theorem auI (a0 a1 a2 a3 x0 x1 x2 x3:D):eM [a0,a1,a2,a3] 0 [x0,x1,x2,x3]=[x0,x1,x2,x3]:=_root_.id rfl
@[simp] theorem auJ (a0 a1 a2 a3 a4 x0 x1 x2 x3 x4:D):eM [a0,a1,a2,a3,a4] 0 [x0,x1,x2,x3,x4]=[x0,x1,x2,x3,x4]:=_root_.id rfl
@[simp] theorem auK (a0 a1 a2 a3 a4 a5 x0 x1 x2 x3 x4 x5:D):eM [a0,a1,a2,a3,a4,a5] 0 [x0,x1,x2,x3,x4,x5]=[x0,x1,x2,x3,x4,x5]:=_root_.id rfl
@[simp] theorem auL (a0 a1 a2 a3 a4 a5 a6 a7 a8 x0 x1 x2 x3 x4 x5 x6 x7 x8:D):eM [a0,a1,a2,a3,a4,a5,a6,a7,a8] 0 [x0,x1,x2,x3,x4,x5,x6,x7,x8]=[x0,x1,x2,x3,x4,x5,x6,x7,x8]:=_root_.id rfl
end Rm
