/-
  Shared texts of this claim.
-/
import Derived.Test.YtehiffddpebpkaaGreatDoorKAJ
import Derived.Test.YtehiffddpebpkaaGreatDoorProg
set_option linter.unusedSimpArgs false
set_option linter.unusedVariables false
namespace Rm
open Go Cx
abbrev str (b:ByteArray):D:=.v (.string b)
def strs (l:List ByteArray):D:=.list (l.map str)
@[simp] theorem afv (l:List ByteArray):(strs l).l=l.map str:=_root_.id rfl
theorem str_inv {d:D}(h:DTy .str d):∃b,d=str b:=by
 cases h with
 |str b=>exact⟨b,rfl⟩
 |other t d h=>exact h.elim
theorem acG {d:D}(h:DTy (.slice .str) d):∃l:List ByteArray,d=strs l∧l.length≤maxLen:=by
 obtain⟨xs,rfl,hm,hx⟩:=h.slice_inv
 obtain⟨l,rfl,hl⟩:=cq (enc:=str) (P:=fun _=>True) fun x hh=>(str_inv (hx x hh)).imp fun b hb=>⟨hb,trivial⟩
 exact⟨l,rfl,by simpa using hm⟩
@[simp] theorem aij (t:Tm):(jd t).cells=[.int t.op,.int t.n,.list (t.args.map jd)]:=by rw[FB];rfl
@[simp] theorem alj (t:Tm):D.agg [.int t.op,.int t.n,.list (t.args.map jd)]=jd t:=(FB t).symm
@[simp] theorem alk (t:Tm):(jd t).c 0=.int t.op:=by rw[FB];rfl
@[simp] theorem ali (t:Tm):(jd t).c 1=.int t.n:=by rw[FB];rfl
@[simp] theorem alh (t:Tm):(jd t).c 2=.list (t.args.map jd):=by rw[FB];rfl
structure City where
 name:ByteArray
 order:Int
 currency:Int
 rest:List Int
 feasts:List Int
 shut:List Int
 deriving Inhabited
def bD (x:City):D:=.agg [str x.name,.int x.order,.int x.currency,ints x.rest,ints x.feasts,ints x.shut]
@[simp] theorem afr (x:City):(bD x).cells=[str x.name,.int x.order,.int x.currency,ints x.rest,ints x.feasts,ints x.shut]:=_root_.id rfl
@[simp] theorem ajn (x:City):D.agg [str x.name,.int x.order,.int x.currency,ints x.rest,ints x.feasts,ints x.shut]=bD x:=_root_.id rfl
@[simp] theorem af2 (x:City):vL 6 (bD x)=bD x:=_root_.id rfl
@[simp] theorem ajj (x:City):(bD x).c 0=str x.name:=_root_.id rfl
@[simp] theorem aiR (x:City):(bD x).c 1=.int x.order:=_root_.id rfl
@[simp] theorem ajL (x:City):(bD x).c 2=.int x.currency:=_root_.id rfl
@[simp] theorem aix (x:City):(bD x).c 3=ints x.rest:=_root_.id rfl
@[simp] theorem aju (x:City):(bD x).c 4=ints x.feasts:=_root_.id rfl
@[simp] theorem aiJ (x:City):(bD x).c 5=ints x.shut:=_root_.id rfl
def yf (l:List City):D:=.list (l.map bD)
@[simp] theorem ai6 (l:List City):(yf l).l=l.map bD:=_root_.id rfl
abbrev XJ:Ty:=.agg [.str,.int .i64,.int .i64,.slice (.int .i64),.slice (.int .i64),.slice (.int .i64)]
def City.OK (x:City):Prop:=I64 x.order∧I64 x.currency∧(x.rest.length≤maxLen∧∀y,y∈x.rest→I64 y)∧(x.feasts.length≤maxLen∧∀y,y∈x.feasts→I64 y)∧(x.shut.length≤maxLen∧∀y,y∈x.shut→I64 y)
theorem acR {d:D}(h:DTy XJ d):∃x:City,d=bD x∧x.OK:=by
 obtain⟨ds,rfl,hs⟩:=h.agg_inv
 obtain⟨d0,ds,rfl,h0,hs⟩:=hs.cons_inv
 obtain⟨d1,ds,rfl,h1,hs⟩:=hs.cons_inv
 obtain⟨d2,ds,rfl,h2,hs⟩:=hs.cons_inv
 obtain⟨d3,ds,rfl,h3,hs⟩:=hs.cons_inv
 obtain⟨d4,ds,rfl,h4,hs⟩:=hs.cons_inv
 obtain⟨d5,ds,rfl,h5,hs⟩:=hs.cons_inv
 obtain rfl:=hs.nil_inv
 obtain⟨n0,rfl⟩:=str_inv h0
 obtain⟨n1,rfl,b1⟩:=h1.i64_inv
 obtain⟨n2,rfl,b2⟩:=h2.i64_inv
 obtain⟨n3,rfl,b3,c3⟩:=h3.ints_inv
 obtain⟨n4,rfl,b4,c4⟩:=h4.ints_inv
 obtain⟨n5,rfl,b5,c5⟩:=h5.ints_inv
 exact⟨⟨n0,n1,n2,n3,n4,n5⟩,rfl,⟨b1,b2,⟨b3,c3⟩,⟨b4,c4⟩,⟨b5,c5⟩⟩⟩
theorem abc {d:D}(h:DTy (.slice XJ) d):∃l:List City,d=yf l∧l.length≤maxLen∧∀y,y∈l→City.OK y:=by
 obtain⟨xs,rfl,hm,hx⟩:=h.slice_inv
 obtain⟨l,rfl,hl⟩:=cq (enc:=bD) (P:=City.OK) fun x hh=>acR (hx x hh)
 exact⟨l,rfl,by simpa using hm,hl⟩
structure Firm where
 name:ByteArray
 city:Int
 group:Int
 deriving Inhabited
def qI (x:Firm):D:=.agg [str x.name,.int x.city,.int x.group]
@[simp] theorem afz (x:Firm):(qI x).cells=[str x.name,.int x.city,.int x.group]:=_root_.id rfl
@[simp] theorem aiE (x:Firm):D.agg [str x.name,.int x.city,.int x.group]=qI x:=_root_.id rfl
@[simp] theorem ajx (x:Firm):(qI x).c 0=str x.name:=_root_.id rfl
@[simp] theorem ai5 (x:Firm):(qI x).c 1=.int x.city:=_root_.id rfl
@[simp] theorem ai1 (x:Firm):(qI x).c 2=.int x.group:=_root_.id rfl
def firms (l:List Firm):D:=.list (l.map qI)
@[simp] theorem ajI (l:List Firm):(firms l).l=l.map qI:=_root_.id rfl
abbrev X8:Ty:=.agg [.str,.int .i64,.int .i64]
def Firm.OK (x:Firm):Prop:=I64 x.city∧I64 x.group
theorem abg {d:D}(h:DTy X8 d):∃x:Firm,d=qI x∧x.OK:=by
 obtain⟨ds,rfl,hs⟩:=h.agg_inv
 obtain⟨d0,ds,rfl,h0,hs⟩:=hs.cons_inv
 obtain⟨d1,ds,rfl,h1,hs⟩:=hs.cons_inv
 obtain⟨d2,ds,rfl,h2,hs⟩:=hs.cons_inv
 obtain rfl:=hs.nil_inv
 obtain⟨n0,rfl⟩:=str_inv h0
 obtain⟨n1,rfl,b1⟩:=h1.i64_inv
 obtain⟨n2,rfl,b2⟩:=h2.i64_inv
 exact⟨⟨n0,n1,n2⟩,rfl,⟨b1,b2⟩⟩
theorem aau {d:D}(h:DTy (.slice X8) d):∃l:List Firm,d=firms l∧l.length≤maxLen∧∀y,y∈l→Firm.OK y:=by
 obtain⟨xs,rfl,hm,hx⟩:=h.slice_inv
 obtain⟨l,rfl,hl⟩:=cq (enc:=qI) (P:=Firm.OK) fun x hh=>abg (hx x hh)
 exact⟨l,rfl,by simpa using hm,hl⟩
structure Group where
 grade:Int
 deriving DecidableEq,Inhabited
def sl (x:Group):D:=.agg [.int x.grade]
@[simp] theorem aef (x:Group):(sl x).cells=[.int x.grade]:=_root_.id rfl
@[simp] theorem ahz (x:Group):D.agg [.int x.grade]=sl x:=_root_.id rfl
@[simp] theorem agO (x:Group):(sl x).c 0=.int x.grade:=_root_.id rfl
def groups (l:List Group):D:=.list (l.map sl)
@[simp] theorem ah4 (l:List Group):(groups l).l=l.map sl:=_root_.id rfl
abbrev Uc:Ty:=.agg [.int .i64]
def Group.OK (x:Group):Prop:=I64 x.grade
theorem Z6 {d:D}(h:DTy Uc d):∃x:Group,d=sl x∧x.OK:=by
 obtain⟨ds,rfl,hs⟩:=h.agg_inv
 obtain⟨d0,ds,rfl,h0,hs⟩:=hs.cons_inv
 obtain rfl:=hs.nil_inv
 obtain⟨n0,rfl,b0⟩:=h0.i64_inv
 exact⟨⟨n0⟩,rfl,b0⟩
theorem XU {d:D}(h:DTy (.slice Uc) d):∃l:List Group,d=groups l∧l.length≤maxLen∧∀y,y∈l→Group.OK y:=by
 obtain⟨xs,rfl,hm,hx⟩:=h.slice_inv
 obtain⟨l,rfl,hl⟩:=cq (enc:=sl) (P:=Group.OK) fun x hh=>Z6 (hx x hh)
 exact⟨l,rfl,by simpa using hm,hl⟩
structure Usance where
 fr:Int
 to:Int
 days:Int
 deriving DecidableEq,Inhabited
def ic (x:Usance):D:=.agg [.int x.fr,.int x.to,.int x.days]
@[simp] theorem adF (x:Usance):(ic x).cells=[.int x.fr,.int x.to,.int x.days]:=_root_.id rfl
@[simp] theorem agd (x:Usance):D.agg [.int x.fr,.int x.to,.int x.days]=ic x:=_root_.id rfl
@[simp] theorem af7 (x:Usance):(ic x).c 0=.int x.fr:=_root_.id rfl
@[simp] theorem afP (x:Usance):(ic x).c 1=.int x.to:=_root_.id rfl
@[simp] theorem agc (x:Usance):(ic x).c 2=.int x.days:=_root_.id rfl
def usances (l:List Usance):D:=.list (l.map ic)
@[simp] theorem ago (l:List Usance):(usances l).l=l.map ic:=_root_.id rfl
abbrev O2:Ty:=.agg [.int .i64,.int .i64,.int .i64]
def Usance.OK (x:Usance):Prop:=I64 x.fr∧I64 x.to∧I64 x.days
theorem Ys {d:D}(h:DTy O2 d):∃x:Usance,d=ic x∧x.OK:=by
 obtain⟨ds,rfl,hs⟩:=h.agg_inv
 obtain⟨d0,ds,rfl,h0,hs⟩:=hs.cons_inv
 obtain⟨d1,ds,rfl,h1,hs⟩:=hs.cons_inv
 obtain⟨d2,ds,rfl,h2,hs⟩:=hs.cons_inv
 obtain rfl:=hs.nil_inv
 obtain⟨n0,rfl,b0⟩:=h0.i64_inv
 obtain⟨n1,rfl,b1⟩:=h1.i64_inv
 obtain⟨n2,rfl,b2⟩:=h2.i64_inv
 exact⟨⟨n0,n1,n2⟩,rfl,⟨b0,b1,b2⟩⟩
theorem Vr {d:D}(h:DTy (.slice O2) d):∃l:List Usance,d=usances l∧l.length≤maxLen∧∀y,y∈l→Usance.OK y:=by
 obtain⟨xs,rfl,hm,hx⟩:=h.slice_inv
 obtain⟨l,rfl,hl⟩:=cq (enc:=ic) (P:=Usance.OK) fun x hh=>Ys (hx x hh)
 exact⟨l,rfl,by simpa using hm,hl⟩
structure Rate where
 fr:Int
 to:Int
 num:Int
 den:Int
 since:Int
 deriving DecidableEq,Inhabited
def lY (x:Rate):D:=.agg [.int x.fr,.int x.to,.int x.num,.int x.den,.int x.since]
@[simp] theorem ae4 (x:Rate):(lY x).cells=[.int x.fr,.int x.to,.int x.num,.int x.den,.int x.since]:=_root_.id rfl
@[simp] theorem ajM (x:Rate):D.agg [.int x.fr,.int x.to,.int x.num,.int x.den,.int x.since]=lY x:=_root_.id rfl
@[simp] theorem ajg (x:Rate):(lY x).c 0=.int x.fr:=_root_.id rfl
@[simp] theorem aik (x:Rate):(lY x).c 1=.int x.to:=_root_.id rfl
@[simp] theorem ai3 (x:Rate):(lY x).c 2=.int x.num:=_root_.id rfl
@[simp] theorem ajs (x:Rate):(lY x).c 3=.int x.den:=_root_.id rfl
@[simp] theorem ajz (x:Rate):(lY x).c 4=.int x.since:=_root_.id rfl
def rates (l:List Rate):D:=.list (l.map lY)
@[simp] theorem ajJ (l:List Rate):(rates l).l=l.map lY:=_root_.id rfl
abbrev YQ:Ty:=.agg [.int .i64,.int .i64,.int .i64,.int .i64,.int .i64]
def Rate.OK (x:Rate):Prop:=I64 x.fr∧I64 x.to∧I64 x.num∧I64 x.den∧I64 x.since
theorem abI {d:D}(h:DTy YQ d):∃x:Rate,d=lY x∧x.OK:=by
 obtain⟨ds,rfl,hs⟩:=h.agg_inv
 obtain⟨d0,ds,rfl,h0,hs⟩:=hs.cons_inv
 obtain⟨d1,ds,rfl,h1,hs⟩:=hs.cons_inv
 obtain⟨d2,ds,rfl,h2,hs⟩:=hs.cons_inv
 obtain⟨d3,ds,rfl,h3,hs⟩:=hs.cons_inv
 obtain⟨d4,ds,rfl,h4,hs⟩:=hs.cons_inv
 obtain rfl:=hs.nil_inv
 obtain⟨n0,rfl,b0⟩:=h0.i64_inv
 obtain⟨n1,rfl,b1⟩:=h1.i64_inv
 obtain⟨n2,rfl,b2⟩:=h2.i64_inv
 obtain⟨n3,rfl,b3⟩:=h3.i64_inv
 obtain⟨n4,rfl,b4⟩:=h4.i64_inv
 exact⟨⟨n0,n1,n2,n3,n4⟩,rfl,⟨b0,b1,b2,b3,b4⟩⟩
theorem aa5 {d:D}(h:DTy (.slice YQ) d):∃l:List Rate,d=rates l∧l.length≤maxLen∧∀y,y∈l→Rate.OK y:=by
 obtain⟨xs,rfl,hm,hx⟩:=h.slice_inv
 obtain⟨l,rfl,hl⟩:=cq (enc:=lY) (P:=Rate.OK) fun x hh=>abI (hx x hh)
 exact⟨l,rfl,by simpa using hm,hl⟩
structure Halt where
 order:Int
 fr:Int
 to:Int
 deriving DecidableEq,Inhabited
def rf (x:Halt):D:=.agg [.int x.order,.int x.fr,.int x.to]
@[simp] theorem afC (x:Halt):(rf x).cells=[.int x.order,.int x.fr,.int x.to]:=_root_.id rfl
@[simp] theorem ajp (x:Halt):D.agg [.int x.order,.int x.fr,.int x.to]=rf x:=_root_.id rfl
@[simp] theorem ajy (x:Halt):(rf x).c 0=.int x.order:=_root_.id rfl
@[simp] theorem aiU (x:Halt):(rf x).c 1=.int x.fr:=_root_.id rfl
@[simp] theorem aiP (x:Halt):(rf x).c 2=.int x.to:=_root_.id rfl
def halts (l:List Halt):D:=.list (l.map rf)
@[simp] theorem aiq (l:List Halt):(halts l).l=l.map rf:=_root_.id rfl
abbrev XZ:Ty:=.agg [.int .i64,.int .i64,.int .i64]
def Halt.OK (x:Halt):Prop:=I64 x.order∧I64 x.fr∧I64 x.to
theorem acV {d:D}(h:DTy XZ d):∃x:Halt,d=rf x∧x.OK:=by
 obtain⟨ds,rfl,hs⟩:=h.agg_inv
 obtain⟨d0,ds,rfl,h0,hs⟩:=hs.cons_inv
 obtain⟨d1,ds,rfl,h1,hs⟩:=hs.cons_inv
 obtain⟨d2,ds,rfl,h2,hs⟩:=hs.cons_inv
 obtain rfl:=hs.nil_inv
 obtain⟨n0,rfl,b0⟩:=h0.i64_inv
 obtain⟨n1,rfl,b1⟩:=h1.i64_inv
 obtain⟨n2,rfl,b2⟩:=h2.i64_inv
 exact⟨⟨n0,n1,n2⟩,rfl,⟨b0,b1,b2⟩⟩
theorem aah {d:D}(h:DTy (.slice XZ) d):∃l:List Halt,d=halts l∧l.length≤maxLen∧∀y,y∈l→Halt.OK y:=by
 obtain⟨xs,rfl,hm,hx⟩:=h.slice_inv
 obtain⟨l,rfl,hl⟩:=cq (enc:=rf) (P:=Halt.OK) fun x hh=>acV (hx x hh)
 exact⟨l,rfl,by simpa using hm,hl⟩
structure Choice where
 ask:Int
 by_:Int
 whole:Bool
 deriving DecidableEq,Inhabited
def kX (x:Choice):D:=.agg [.int x.ask,.int x.by_,.bool x.whole]
@[simp] theorem adW (x:Choice):(kX x).cells=[.int x.ask,.int x.by_,.bool x.whole]:=_root_.id rfl
@[simp] theorem agp (x:Choice):D.agg [.int x.ask,.int x.by_,.bool x.whole]=kX x:=_root_.id rfl
@[simp] theorem aga (x:Choice):(kX x).c 0=.int x.ask:=_root_.id rfl
@[simp] theorem afT (x:Choice):(kX x).c 1=.int x.by_:=_root_.id rfl
def choices (l:List Choice):D:=.list (l.map kX)
@[simp] theorem af8 (l:List Choice):(choices l).l=l.map kX:=_root_.id rfl
abbrev O9:Ty:=.agg [.int .i64,.int .i64,.bool]
def Choice.OK (x:Choice):Prop:=I64 x.ask∧I64 x.by_
theorem Yp {d:D}(h:DTy O9 d):∃x:Choice,d=kX x∧x.OK:=by
 obtain⟨ds,rfl,hs⟩:=h.agg_inv
 obtain⟨d0,ds,rfl,h0,hs⟩:=hs.cons_inv
 obtain⟨d1,ds,rfl,h1,hs⟩:=hs.cons_inv
 obtain⟨d2,ds,rfl,h2,hs⟩:=hs.cons_inv
 obtain rfl:=hs.nil_inv
 obtain⟨n0,rfl,b0⟩:=h0.i64_inv
 obtain⟨n1,rfl,b1⟩:=h1.i64_inv
 obtain⟨n2,rfl⟩:=h2.bool_inv
 exact⟨⟨n0,n1,n2⟩,rfl,⟨b0,b1⟩⟩
theorem WN {d:D}(h:DTy (.slice O9) d):∃l:List Choice,d=choices l∧l.length≤maxLen∧∀y,y∈l→Choice.OK y:=by
 obtain⟨xs,rfl,hm,hx⟩:=h.slice_inv
 obtain⟨l,rfl,hl⟩:=cq (enc:=kX) (P:=Choice.OK) fun x hh=>Yp (hx x hh)
 exact⟨l,rfl,by simpa using hm,hl⟩
structure Rule where
 ask:Int
 term:Tm
 deriving Inhabited
def qY (x:Rule):D:=.agg [.int x.ask,.int x.term.op,.int x.term.n,.list (x.term.args.map jd)]
@[simp] theorem afw (x:Rule):(qY x).cells=[.int x.ask,.int x.term.op,.int x.term.n,.list (x.term.args.map jd)]:=_root_.id rfl
@[simp] theorem ajX (x:Rule):D.agg [.int x.ask,.int x.term.op,.int x.term.n,.list (x.term.args.map jd)]=qY x:=_root_.id rfl
@[simp] theorem aiZ (x:Rule):(qY x).c 0=.int x.ask:=_root_.id rfl
def rules (l:List Rule):D:=.list (l.map qY)
@[simp] theorem ajT (l:List Rule):(rules l).l=l.map qY:=_root_.id rfl
abbrev YJ:Ty:=.agg [.int .i64,.int .i64,.int .i64,.slice .trm]
def Rule.OK (x:Rule):Prop:=I64 x.ask∧Tm.OK x.term
theorem abT {d:D}(h:DTy YJ d):∃x:Rule,d=qY x∧x.OK:=by
 obtain⟨ds,rfl,hs⟩:=h.agg_inv
 obtain⟨d0,ds,rfl,h0,hs⟩:=hs.cons_inv
 obtain⟨d1,ds,rfl,h1,hs⟩:=hs.cons_inv
 obtain⟨d2,ds,rfl,h2,hs⟩:=hs.cons_inv
 obtain⟨d3,ds,rfl,h3,hs⟩:=hs.cons_inv
 obtain rfl:=hs.nil_inv
 obtain⟨n0,rfl,b0⟩:=h0.i64_inv
 obtain⟨n1,rfl,b1⟩:=h1.i64_inv
 obtain⟨n2,rfl,b2⟩:=h2.i64_inv
 obtain⟨n3,rfl,b3,c3⟩:=h3.trms_inv
 exact⟨⟨n0,.mk n1 n2 n3⟩,rfl,⟨b0,.mk _ _ _ b1 b2 b3 c3⟩⟩
theorem aaP {d:D}(h:DTy (.slice YJ) d):∃l:List Rule,d=rules l∧l.length≤maxLen∧∀y,y∈l→Rule.OK y:=by
 obtain⟨xs,rfl,hm,hx⟩:=h.slice_inv
 obtain⟨l,rfl,hl⟩:=cq (enc:=qY) (P:=Rule.OK) fun x hh=>abT (hx x hh)
 exact⟨l,rfl,by simpa using hm,hl⟩
structure Order where
 name:ByteArray
 accepts:Bool
 choices:List Choice
 rules:List Rule
 deriving Inhabited
def bP (x:Order):D:=.agg [str x.name,.bool x.accepts,choices x.choices,rules x.rules]
@[simp] theorem aeK (x:Order):(bP x).cells=[str x.name,.bool x.accepts,choices x.choices,rules x.rules]:=_root_.id rfl
@[simp] theorem ahr (x:Order):D.agg [str x.name,.bool x.accepts,choices x.choices,rules x.rules]=bP x:=_root_.id rfl
@[simp] theorem afJ (x:Order):vL 4 (bP x)=bP x:=_root_.id rfl
@[simp] theorem agK (x:Order):(bP x).c 0=str x.name:=_root_.id rfl
@[simp] theorem ahg (x:Order):(bP x).c 1=.bool x.accepts:=_root_.id rfl
@[simp] theorem ahl (x:Order):(bP x).c 2=choices x.choices:=_root_.id rfl
@[simp] theorem agy (x:Order):(bP x).c 3=rules x.rules:=_root_.id rfl
def orders (l:List Order):D:=.list (l.map bP)
@[simp] theorem ahx (l:List Order):(orders l).l=l.map bP:=_root_.id rfl
abbrev Tq:Ty:=.agg [.str,.bool,.slice O9,.slice YJ]
def Order.OK (x:Order):Prop:=(x.choices.length≤maxLen∧∀y,y∈x.choices→Choice.OK y)∧(x.rules.length≤maxLen∧∀y,y∈x.rules→Rule.OK y)
theorem Z9 {d:D}(h:DTy Tq d):∃x:Order,d=bP x∧x.OK:=by
 obtain⟨ds,rfl,hs⟩:=h.agg_inv
 obtain⟨d0,ds,rfl,h0,hs⟩:=hs.cons_inv
 obtain⟨d1,ds,rfl,h1,hs⟩:=hs.cons_inv
 obtain⟨d2,ds,rfl,h2,hs⟩:=hs.cons_inv
 obtain⟨d3,ds,rfl,h3,hs⟩:=hs.cons_inv
 obtain rfl:=hs.nil_inv
 obtain⟨n0,rfl⟩:=str_inv h0
 obtain⟨n1,rfl⟩:=h1.bool_inv
 obtain⟨n2,rfl,b2,c2⟩:=WN h2
 obtain⟨n3,rfl,b3,c3⟩:=aaP h3
 exact⟨⟨n0,n1,n2,n3⟩,rfl,⟨⟨b2,c2⟩,⟨b3,c3⟩⟩⟩
theorem XT {d:D}(h:DTy (.slice Tq) d):∃l:List Order,d=orders l∧l.length≤maxLen∧∀y,y∈l→Order.OK y:=by
 obtain⟨xs,rfl,hm,hx⟩:=h.slice_inv
 obtain⟨l,rfl,hl⟩:=cq (enc:=bP) (P:=Order.OK) fun x hh=>Z9 (hx x hh)
 exact⟨l,rfl,by simpa using hm,hl⟩
structure Realm where
 currencies:List ByteArray
 cities:List City
 groups:List Group
 firms:List Firm
 orders:List Order
 usances:List Usance
 rates:List Rate
 halts:List Halt
 deriving Inhabited
def au (x:Realm):D:=.agg [strs x.currencies,yf x.cities,groups x.groups,firms x.firms,orders x.orders,usances x.usances,rates x.rates,halts x.halts]
@[simp] theorem aeG (x:Realm):(au x).cells=[strs x.currencies,yf x.cities,groups x.groups,firms x.firms,orders x.orders,usances x.usances,rates x.rates,halts x.halts]:=_root_.id rfl
@[simp] theorem ahI (x:Realm):D.agg [strs x.currencies,yf x.cities,groups x.groups,firms x.firms,orders x.orders,usances x.usances,rates x.rates,halts x.halts]=au x:=_root_.id rfl
@[simp] theorem ae1 (x:Realm):vL 8 (au x)=au x:=_root_.id rfl
@[simp] theorem afl (x:Realm)(a0 a1 a2 a3 a4 a5 a6 a7:D):D.agg (aT [a0,a1,a2,a3,a4,a5,a6,a7] 0 [strs x.currencies,yf x.cities,groups x.groups,firms x.firms,orders x.orders,usances x.usances,rates x.rates,halts x.halts])=au x:=_root_.id rfl
@[simp] theorem ahX (x:Realm):(au x).c 0=strs x.currencies:=_root_.id rfl
@[simp] theorem ahw (x:Realm):(au x).c 1=yf x.cities:=_root_.id rfl
@[simp] theorem ahs (x:Realm):(au x).c 2=groups x.groups:=_root_.id rfl
@[simp] theorem ah7 (x:Realm):(au x).c 3=firms x.firms:=_root_.id rfl
@[simp] theorem agD (x:Realm):(au x).c 4=orders x.orders:=_root_.id rfl
@[simp] theorem ahE (x:Realm):(au x).c 5=usances x.usances:=_root_.id rfl
@[simp] theorem ah2 (x:Realm):(au x).c 6=rates x.rates:=_root_.id rfl
@[simp] theorem aha (x:Realm):(au x).c 7=halts x.halts:=_root_.id rfl
abbrev adL:Ty:=.agg [.slice .str,.slice XJ,.slice Uc,.slice X8,.slice Tq,.slice O2,.slice YQ,.slice XZ]
def Realm.OK (x:Realm):Prop:=x.currencies.length≤maxLen∧(x.cities.length≤maxLen∧∀y,y∈x.cities→City.OK y)∧(x.groups.length≤maxLen∧∀y,y∈x.groups→Group.OK y)∧(x.firms.length≤maxLen∧∀y,y∈x.firms→Firm.OK y)∧(x.orders.length≤maxLen∧∀y,y∈x.orders→Order.OK y)∧(x.usances.length≤maxLen∧∀y,y∈x.usances→Usance.OK y)∧(x.rates.length≤maxLen∧∀y,y∈x.rates→Rate.OK y)∧(x.halts.length≤maxLen∧∀y,y∈x.halts→Halt.OK y)
theorem aaA {d:D}(h:DTy adL d):∃x:Realm,d=au x∧x.OK:=by
 obtain⟨ds,rfl,hs⟩:=h.agg_inv
 obtain⟨d0,ds,rfl,h0,hs⟩:=hs.cons_inv
 obtain⟨d1,ds,rfl,h1,hs⟩:=hs.cons_inv
 obtain⟨d2,ds,rfl,h2,hs⟩:=hs.cons_inv
 obtain⟨d3,ds,rfl,h3,hs⟩:=hs.cons_inv
 obtain⟨d4,ds,rfl,h4,hs⟩:=hs.cons_inv
 obtain⟨d5,ds,rfl,h5,hs⟩:=hs.cons_inv
 obtain⟨d6,ds,rfl,h6,hs⟩:=hs.cons_inv
 obtain⟨d7,ds,rfl,h7,hs⟩:=hs.cons_inv
 obtain rfl:=hs.nil_inv
 obtain⟨n0,rfl,b0⟩:=acG h0
 obtain⟨n1,rfl,b1,c1⟩:=abc h1
 obtain⟨n2,rfl,b2,c2⟩:=XU h2
 obtain⟨n3,rfl,b3,c3⟩:=aau h3
 obtain⟨n4,rfl,b4,c4⟩:=XT h4
 obtain⟨n5,rfl,b5,c5⟩:=Vr h5
 obtain⟨n6,rfl,b6,c6⟩:=aa5 h6
 obtain⟨n7,rfl,b7,c7⟩:=aah h7
 exact⟨⟨n0,n1,n2,n3,n4,n5,n6,n7⟩,rfl,⟨b0,⟨b1,c1⟩,⟨b2,c2⟩,⟨b3,c3⟩,⟨b4,c4⟩,⟨b5,c5⟩,⟨b6,c6⟩,⟨b7,c7⟩⟩⟩
structure Tenor where
 kind:Int
 n:Int
 unit:Int
 deriving DecidableEq,Inhabited
def jC (x:Tenor):D:=.agg [.int x.kind,.int x.n,.int x.unit]
@[simp] theorem aeB (x:Tenor):(jC x).cells=[.int x.kind,.int x.n,.int x.unit]:=_root_.id rfl
@[simp] theorem ah1 (x:Tenor):D.agg [.int x.kind,.int x.n,.int x.unit]=jC x:=_root_.id rfl
@[simp] theorem ahp (x:Tenor):(jC x).c 0=.int x.kind:=_root_.id rfl
@[simp] theorem ahM (x:Tenor):(jC x).c 1=.int x.n:=_root_.id rfl
@[simp] theorem ahL (x:Tenor):(jC x).c 2=.int x.unit:=_root_.id rfl
def Tenor.OK (x:Tenor):Prop:=I64 x.kind∧I64 x.n∧I64 x.unit
structure Bill where
 drawer:Int
 drawee:Int
 payee:Int
 sum:Int
 currency:Int
 tenor:Tenor
 day:Int
 city:Int
 pay:Int
 need:Int
 rate:Int
 flags:Int
 parts:Int
 deriving DecidableEq,Inhabited
def aR (x:Bill):D:=.agg [.int x.drawer,.int x.drawee,.int x.payee,.int x.sum,.int x.currency,.int x.tenor.kind,.int x.tenor.n,.int x.tenor.unit,.int x.day,.int x.city,.int x.pay,.int x.need,.int x.rate,.int x.flags,.int x.parts]
@[simp] theorem afm (x:Bill):(aR x).cells=[.int x.drawer,.int x.drawee,.int x.payee,.int x.sum,.int x.currency,.int x.tenor.kind,.int x.tenor.n,.int x.tenor.unit,.int x.day,.int x.city,.int x.pay,.int x.need,.int x.rate,.int x.flags,.int x.parts]:=_root_.id rfl
@[simp] theorem ajt (x:Bill):D.agg [.int x.drawer,.int x.drawee,.int x.payee,.int x.sum,.int x.currency,.int x.tenor.kind,.int x.tenor.n,.int x.tenor.unit,.int x.day,.int x.city,.int x.pay,.int x.need,.int x.rate,.int x.flags,.int x.parts]=aR x:=_root_.id rfl
@[simp] theorem agm (x:Bill):vL 15 (aR x)=aR x:=_root_.id rfl
@[simp] theorem afR (x:Bill)(a0 a1 a2 a3 a4 a5 a6 a7 a8 a9 a10 a11 a12 a13 a14:D):D.agg (aT [a0,a1,a2,a3,a4,a5,a6,a7,a8,a9,a10,a11,a12,a13,a14] 0 [.int x.drawer,.int x.drawee,.int x.payee,.int x.sum,.int x.currency,.int x.tenor.kind,.int x.tenor.n,.int x.tenor.unit,.int x.day,.int x.city,.int x.pay,.int x.need,.int x.rate,.int x.flags,.int x.parts])=aR x:=_root_.id rfl
@[simp] theorem aiI (x:Bill):(aR x).c 0=.int x.drawer:=_root_.id rfl
@[simp] theorem ajF (x:Bill):(aR x).c 1=.int x.drawee:=_root_.id rfl
@[simp] theorem ajQ (x:Bill):(aR x).c 2=.int x.payee:=_root_.id rfl
@[simp] theorem air (x:Bill):(aR x).c 3=.int x.sum:=_root_.id rfl
@[simp] theorem ajB (x:Bill):(aR x).c 4=.int x.currency:=_root_.id rfl
@[simp] theorem ajV (x:Bill):(aR x).c 5=.int x.tenor.kind:=_root_.id rfl
@[simp] theorem ajY (x:Bill):(aR x).c 6=.int x.tenor.n:=_root_.id rfl
@[simp] theorem ajw (x:Bill):(aR x).c 7=.int x.tenor.unit:=_root_.id rfl
@[simp] theorem ajc (x:Bill):(aR x).c 8=.int x.day:=_root_.id rfl
@[simp] theorem ajZ (x:Bill):(aR x).c 9=.int x.city:=_root_.id rfl
@[simp] theorem ag5 (x:Bill):(aR x).c 10=.int x.pay:=_root_.id rfl
@[simp] theorem agS (x:Bill):(aR x).c 11=.int x.need:=_root_.id rfl
@[simp] theorem ahm (x:Bill):(aR x).c 12=.int x.rate:=_root_.id rfl
@[simp] theorem ahh (x:Bill):(aR x).c 13=.int x.flags:=_root_.id rfl
@[simp] theorem ag0 (x:Bill):(aR x).c 14=.int x.parts:=_root_.id rfl
def Bill.OK (x:Bill):Prop:=I64 x.drawer∧I64 x.drawee∧I64 x.payee∧I64 x.sum∧I64 x.currency∧Tenor.OK x.tenor∧I64 x.day∧I64 x.city∧I64 x.pay∧I64 x.need∧I64 x.rate∧I64 x.flags∧I64 x.parts
structure Sign where
 kind:Int
 part:Int
 who:Int
 for_:Int
 to:Int
 sum:Int
 day:Int
 city:Int
 flags:Int
 deriving DecidableEq,Inhabited
def dU (x:Sign):D:=.agg [.int x.kind,.int x.part,.int x.who,.int x.for_,.int x.to,.int x.sum,.int x.day,.int x.city,.int x.flags]
@[simp] theorem afF (x:Sign):(dU x).cells=[.int x.kind,.int x.part,.int x.who,.int x.for_,.int x.to,.int x.sum,.int x.day,.int x.city,.int x.flags]:=_root_.id rfl
@[simp] theorem aiW (x:Sign):D.agg [.int x.kind,.int x.part,.int x.who,.int x.for_,.int x.to,.int x.sum,.int x.day,.int x.city,.int x.flags]=dU x:=_root_.id rfl
@[simp] theorem af4 (x:Sign):vL 9 (dU x)=dU x:=_root_.id rfl
@[simp] theorem aiy (x:Sign):(dU x).c 0=.int x.kind:=_root_.id rfl
@[simp] theorem ai0 (x:Sign):(dU x).c 1=.int x.part:=_root_.id rfl
@[simp] theorem ajO (x:Sign):(dU x).c 2=.int x.who:=_root_.id rfl
@[simp] theorem ajv (x:Sign):(dU x).c 3=.int x.for_:=_root_.id rfl
@[simp] theorem aiF (x:Sign):(dU x).c 4=.int x.to:=_root_.id rfl
@[simp] theorem aiv (x:Sign):(dU x).c 5=.int x.sum:=_root_.id rfl
@[simp] theorem ajG (x:Sign):(dU x).c 6=.int x.day:=_root_.id rfl
@[simp] theorem aja (x:Sign):(dU x).c 7=.int x.city:=_root_.id rfl
@[simp] theorem ajl (x:Sign):(dU x).c 8=.int x.flags:=_root_.id rfl
def signs (l:List Sign):D:=.list (l.map dU)
@[simp] theorem aiN (l:List Sign):(signs l).l=l.map dU:=_root_.id rfl
@[simp] theorem aen (l:List Sign):(signs l).cells=[signs l]:=_root_.id rfl
abbrev Yv:Ty:=.agg [.int .i64,.int .i64,.int .i64,.int .i64,.int .i64,.int .i64,.int .i64,.int .i64,.int .i64]
def Sign.OK (x:Sign):Prop:=I64 x.kind∧I64 x.part∧I64 x.who∧I64 x.for_∧I64 x.to∧I64 x.sum∧I64 x.day∧I64 x.city∧I64 x.flags
theorem acs {d:D}(h:DTy Yv d):∃x:Sign,d=dU x∧x.OK:=by
 obtain⟨ds,rfl,hs⟩:=h.agg_inv
 obtain⟨d0,ds,rfl,h0,hs⟩:=hs.cons_inv
 obtain⟨d1,ds,rfl,h1,hs⟩:=hs.cons_inv
 obtain⟨d2,ds,rfl,h2,hs⟩:=hs.cons_inv
 obtain⟨d3,ds,rfl,h3,hs⟩:=hs.cons_inv
 obtain⟨d4,ds,rfl,h4,hs⟩:=hs.cons_inv
 obtain⟨d5,ds,rfl,h5,hs⟩:=hs.cons_inv
 obtain⟨d6,ds,rfl,h6,hs⟩:=hs.cons_inv
 obtain⟨d7,ds,rfl,h7,hs⟩:=hs.cons_inv
 obtain⟨d8,ds,rfl,h8,hs⟩:=hs.cons_inv
 obtain rfl:=hs.nil_inv
 obtain⟨n0,rfl,b0⟩:=h0.i64_inv
 obtain⟨n1,rfl,b1⟩:=h1.i64_inv
 obtain⟨n2,rfl,b2⟩:=h2.i64_inv
 obtain⟨n3,rfl,b3⟩:=h3.i64_inv
 obtain⟨n4,rfl,b4⟩:=h4.i64_inv
 obtain⟨n5,rfl,b5⟩:=h5.i64_inv
 obtain⟨n6,rfl,b6⟩:=h6.i64_inv
 obtain⟨n7,rfl,b7⟩:=h7.i64_inv
 obtain⟨n8,rfl,b8⟩:=h8.i64_inv
 exact⟨⟨n0,n1,n2,n3,n4,n5,n6,n7,n8⟩,rfl,⟨b0,b1,b2,b3,b4,b5,b6,b7,b8⟩⟩
theorem aaj {d:D}(h:DTy (.slice Yv) d):∃l:List Sign,d=signs l∧l.length≤maxLen∧∀y,y∈l→Sign.OK y:=by
 obtain⟨xs,rfl,hm,hx⟩:=h.slice_inv
 obtain⟨l,rfl,hl⟩:=cq (enc:=dU) (P:=Sign.OK) fun x hh=>acs (hx x hh)
 exact⟨l,rfl,by simpa using hm,hl⟩
structure Alter where
 at_:Int
 sum:Int
 deriving DecidableEq,Inhabited
def gR (x:Alter):D:=.agg [.int x.at_,.int x.sum]
@[simp] theorem aeu (x:Alter):(gR x).cells=[.int x.at_,.int x.sum]:=_root_.id rfl
@[simp] theorem aid (x:Alter):D.agg [.int x.at_,.int x.sum]=gR x:=_root_.id rfl
@[simp] theorem agF (x:Alter):(gR x).c 0=.int x.at_:=_root_.id rfl
@[simp] theorem agA (x:Alter):(gR x).c 1=.int x.sum:=_root_.id rfl
def alters (l:List Alter):D:=.list (l.map gR)
@[simp] theorem agU (l:List Alter):(alters l).l=l.map gR:=_root_.id rfl
@[simp] theorem adB (l:List Alter):(alters l).cells=[alters l]:=_root_.id rfl
abbrev TN:Ty:=.agg [.int .i64,.int .i64]
def Alter.OK (x:Alter):Prop:=I64 x.at_∧I64 x.sum
theorem aab {d:D}(h:DTy TN d):∃x:Alter,d=gR x∧x.OK:=by
 obtain⟨ds,rfl,hs⟩:=h.agg_inv
 obtain⟨d0,ds,rfl,h0,hs⟩:=hs.cons_inv
 obtain⟨d1,ds,rfl,h1,hs⟩:=hs.cons_inv
 obtain rfl:=hs.nil_inv
 obtain⟨n0,rfl,b0⟩:=h0.i64_inv
 obtain⟨n1,rfl,b1⟩:=h1.i64_inv
 exact⟨⟨n0,n1⟩,rfl,⟨b0,b1⟩⟩
theorem YP {d:D}(h:DTy (.slice TN) d):∃l:List Alter,d=alters l∧l.length≤maxLen∧∀y,y∈l→Alter.OK y:=by
 obtain⟨xs,rfl,hm,hx⟩:=h.slice_inv
 obtain⟨l,rfl,hl⟩:=cq (enc:=gR) (P:=Alter.OK) fun x hh=>aab (hx x hh)
 exact⟨l,rfl,by simpa using hm,hl⟩
structure Act where
 kind:Int
 who:Int
 to:Int
 part:Int
 at_:Int
 sum:Int
 day:Int
 city:Int
 form:Int
 deriving DecidableEq,Inhabited
def fp (x:Act):D:=.agg [.int x.kind,.int x.who,.int x.to,.int x.part,.int x.at_,.int x.sum,.int x.day,.int x.city,.int x.form]
@[simp] theorem af6 (x:Act):(fp x).cells=[.int x.kind,.int x.who,.int x.to,.int x.part,.int x.at_,.int x.sum,.int x.day,.int x.city,.int x.form]:=_root_.id rfl
@[simp] theorem aka (x:Act):D.agg [.int x.kind,.int x.who,.int x.to,.int x.part,.int x.at_,.int x.sum,.int x.day,.int x.city,.int x.form]=fp x:=_root_.id rfl
@[simp] theorem aic (x:Act):vL 9 (fp x)=fp x:=_root_.id rfl
@[simp] theorem akE (x:Act):(fp x).c 0=.int x.kind:=_root_.id rfl
@[simp] theorem akJ (x:Act):(fp x).c 1=.int x.who:=_root_.id rfl
@[simp] theorem akG (x:Act):(fp x).c 2=.int x.to:=_root_.id rfl
@[simp] theorem akL (x:Act):(fp x).c 3=.int x.part:=_root_.id rfl
@[simp] theorem aj5 (x:Act):(fp x).c 4=.int x.at_:=_root_.id rfl
@[simp] theorem aki (x:Act):(fp x).c 5=.int x.sum:=_root_.id rfl
@[simp] theorem akt (x:Act):(fp x).c 6=.int x.day:=_root_.id rfl
@[simp] theorem akk (x:Act):(fp x).c 7=.int x.city:=_root_.id rfl
@[simp] theorem akl (x:Act):(fp x).c 8=.int x.form:=_root_.id rfl
def acts (l:List Act):D:=.list (l.map fp)
@[simp] theorem akq (l:List Act):(acts l).l=l.map fp:=_root_.id rfl
@[simp] theorem afk (l:List Act):(acts l).cells=[acts l]:=_root_.id rfl
abbrev acJ:Ty:=.agg [.int .i64,.int .i64,.int .i64,.int .i64,.int .i64,.int .i64,.int .i64,.int .i64,.int .i64]
def Act.OK (x:Act):Prop:=I64 x.kind∧I64 x.who∧I64 x.to∧I64 x.part∧I64 x.at_∧I64 x.sum∧I64 x.day∧I64 x.city∧I64 x.form
theorem adq {d:D}(h:DTy acJ d):∃x:Act,d=fp x∧x.OK:=by
 obtain⟨ds,rfl,hs⟩:=h.agg_inv
 obtain⟨d0,ds,rfl,h0,hs⟩:=hs.cons_inv
 obtain⟨d1,ds,rfl,h1,hs⟩:=hs.cons_inv
 obtain⟨d2,ds,rfl,h2,hs⟩:=hs.cons_inv
 obtain⟨d3,ds,rfl,h3,hs⟩:=hs.cons_inv
 obtain⟨d4,ds,rfl,h4,hs⟩:=hs.cons_inv
 obtain⟨d5,ds,rfl,h5,hs⟩:=hs.cons_inv
 obtain⟨d6,ds,rfl,h6,hs⟩:=hs.cons_inv
 obtain⟨d7,ds,rfl,h7,hs⟩:=hs.cons_inv
 obtain⟨d8,ds,rfl,h8,hs⟩:=hs.cons_inv
 obtain rfl:=hs.nil_inv
 obtain⟨n0,rfl,b0⟩:=h0.i64_inv
 obtain⟨n1,rfl,b1⟩:=h1.i64_inv
 obtain⟨n2,rfl,b2⟩:=h2.i64_inv
 obtain⟨n3,rfl,b3⟩:=h3.i64_inv
 obtain⟨n4,rfl,b4⟩:=h4.i64_inv
 obtain⟨n5,rfl,b5⟩:=h5.i64_inv
 obtain⟨n6,rfl,b6⟩:=h6.i64_inv
 obtain⟨n7,rfl,b7⟩:=h7.i64_inv
 obtain⟨n8,rfl,b8⟩:=h8.i64_inv
 exact⟨⟨n0,n1,n2,n3,n4,n5,n6,n7,n8⟩,rfl,⟨b0,b1,b2,b3,b4,b5,b6,b7,b8⟩⟩
theorem abm {d:D}(h:DTy (.slice acJ) d):∃l:List Act,d=acts l∧l.length≤maxLen∧∀y,y∈l→Act.OK y:=by
 obtain⟨xs,rfl,hm,hx⟩:=h.slice_inv
 obtain⟨l,rfl,hl⟩:=cq (enc:=fp) (P:=Act.OK) fun x hh=>adq (hx x hh)
 exact⟨l,rfl,by simpa using hm,hl⟩
structure Fact where
 kind:Int
 at_:Int
 n:Int
 deriving DecidableEq,Inhabited
def qW (x:Fact):D:=.agg [.int x.kind,.int x.at_,.int x.n]
@[simp] theorem afb (x:Fact):(qW x).cells=[.int x.kind,.int x.at_,.int x.n]:=_root_.id rfl
@[simp] theorem ai9 (x:Fact):D.agg [.int x.kind,.int x.at_,.int x.n]=qW x:=_root_.id rfl
@[simp] theorem ait (x:Fact):(qW x).c 0=.int x.kind:=_root_.id rfl
@[simp] theorem aiz (x:Fact):(qW x).c 1=.int x.at_:=_root_.id rfl
@[simp] theorem ajq (x:Fact):(qW x).c 2=.int x.n:=_root_.id rfl
def facts (l:List Fact):D:=.list (l.map qW)
@[simp] theorem aiD (l:List Fact):(facts l).l=l.map qW:=_root_.id rfl
@[simp] theorem aeH (l:List Fact):(facts l).cells=[facts l]:=_root_.id rfl
abbrev Yq:Ty:=.agg [.int .i64,.int .i64,.int .i64]
def Fact.OK (x:Fact):Prop:=I64 x.kind∧I64 x.at_∧I64 x.n
theorem acT {d:D}(h:DTy Yq d):∃x:Fact,d=qW x∧x.OK:=by
 obtain⟨ds,rfl,hs⟩:=h.agg_inv
 obtain⟨d0,ds,rfl,h0,hs⟩:=hs.cons_inv
 obtain⟨d1,ds,rfl,h1,hs⟩:=hs.cons_inv
 obtain⟨d2,ds,rfl,h2,hs⟩:=hs.cons_inv
 obtain rfl:=hs.nil_inv
 obtain⟨n0,rfl,b0⟩:=h0.i64_inv
 obtain⟨n1,rfl,b1⟩:=h1.i64_inv
 obtain⟨n2,rfl,b2⟩:=h2.i64_inv
 exact⟨⟨n0,n1,n2⟩,rfl,⟨b0,b1,b2⟩⟩
theorem aaf {d:D}(h:DTy (.slice Yq) d):∃l:List Fact,d=facts l∧l.length≤maxLen∧∀y,y∈l→Fact.OK y:=by
 obtain⟨xs,rfl,hm,hx⟩:=h.slice_inv
 obtain⟨l,rfl,hl⟩:=cq (enc:=qW) (P:=Fact.OK) fun x hh=>acT (hx x hh)
 exact⟨l,rfl,by simpa using hm,hl⟩
structure File where
 bill:Bill
 signs:List Sign
 alters:List Alter
 acts:List Act
 facts:List Fact
 deriving Inhabited
def aE (x:File):D:=.agg [.int x.bill.drawer,.int x.bill.drawee,.int x.bill.payee,.int x.bill.sum,.int x.bill.currency,.int x.bill.tenor.kind,.int x.bill.tenor.n,.int x.bill.tenor.unit,.int x.bill.day,.int x.bill.city,.int x.bill.pay,.int x.bill.need,.int x.bill.rate,.int x.bill.flags,.int x.bill.parts,signs x.signs,alters x.alters,acts x.acts,facts x.facts]
@[simp] theorem afg (x:File):(aE x).cells=[.int x.bill.drawer,.int x.bill.drawee,.int x.bill.payee,.int x.bill.sum,.int x.bill.currency,.int x.bill.tenor.kind,.int x.bill.tenor.n,.int x.bill.tenor.unit,.int x.bill.day,.int x.bill.city,.int x.bill.pay,.int x.bill.need,.int x.bill.rate,.int x.bill.flags,.int x.bill.parts,signs x.signs,alters x.alters,acts x.acts,facts x.facts]:=_root_.id rfl
@[simp] theorem ai2 (x:File):D.agg [.int x.bill.drawer,.int x.bill.drawee,.int x.bill.payee,.int x.bill.sum,.int x.bill.currency,.int x.bill.tenor.kind,.int x.bill.tenor.n,.int x.bill.tenor.unit,.int x.bill.day,.int x.bill.city,.int x.bill.pay,.int x.bill.need,.int x.bill.rate,.int x.bill.flags,.int x.bill.parts,signs x.signs,alters x.alters,acts x.acts,facts x.facts]=aE x:=_root_.id rfl
@[simp] theorem agi (x:File):vL 19 (aE x)=aE x:=_root_.id rfl
@[simp] theorem afU (x:File)(a0 a1 a2 a3 a4 a5 a6 a7 a8 a9 a10 a11 a12 a13 a14 a15 a16 a17 a18:D):D.agg (aT [a0,a1,a2,a3,a4,a5,a6,a7,a8,a9,a10,a11,a12,a13,a14,a15,a16,a17,a18] 0 [.int x.bill.drawer,.int x.bill.drawee,.int x.bill.payee,.int x.bill.sum,.int x.bill.currency,.int x.bill.tenor.kind,.int x.bill.tenor.n,.int x.bill.tenor.unit,.int x.bill.day,.int x.bill.city,.int x.bill.pay,.int x.bill.need,.int x.bill.rate,.int x.bill.flags,.int x.bill.parts,signs x.signs,alters x.alters,acts x.acts,facts x.facts])=aE x:=_root_.id rfl
@[simp] theorem aip (x:File):(aE x).c 0=.int x.bill.drawer:=_root_.id rfl
@[simp] theorem aim (x:File):(aE x).c 1=.int x.bill.drawee:=_root_.id rfl
@[simp] theorem aiQ (x:File):(aE x).c 3=.int x.bill.sum:=_root_.id rfl
@[simp] theorem aiH (x:File):(aE x).c 5=.int x.bill.tenor.kind:=_root_.id rfl
@[simp] theorem ajd (x:File):(aE x).c 8=.int x.bill.day:=_root_.id rfl
@[simp] theorem ajR (x:File):(aE x).c 9=.int x.bill.city:=_root_.id rfl
@[simp] theorem ah8 (x:File):(aE x).c 14=.int x.bill.parts:=_root_.id rfl
@[simp] theorem aie (x:File):(aE x).c 15=signs x.signs:=_root_.id rfl
@[simp] theorem ag1 (x:File):(aE x).c 16=alters x.alters:=_root_.id rfl
@[simp] theorem ahV (x:File):(aE x).c 17=acts x.acts:=_root_.id rfl
@[simp] theorem ah6 (x:File):(aE x).c 18=facts x.facts:=_root_.id rfl
abbrev aeY:Ty:=.agg [.int .i64,.int .i64,.int .i64,.int .i64,.int .i64,.int .i64,.int .i64,.int .i64,.int .i64,.int .i64,.int .i64,.int .i64,.int .i64,.int .i64,.int .i64,.slice Yv,.slice TN,.slice acJ,.slice Yq]
def File.OK (x:File):Prop:=Bill.OK x.bill∧(x.signs.length≤maxLen∧∀y,y∈x.signs→Sign.OK y)∧(x.alters.length≤maxLen∧∀y,y∈x.alters→Alter.OK y)∧(x.acts.length≤maxLen∧∀y,y∈x.acts→Act.OK y)∧(x.facts.length≤maxLen∧∀y,y∈x.facts→Fact.OK y)
theorem acS {d:D}(h:DTy aeY d):∃x:File,d=aE x∧x.OK:=by
 obtain⟨ds,rfl,hs⟩:=h.agg_inv
 obtain⟨d0,ds,rfl,h0,hs⟩:=hs.cons_inv
 obtain⟨d1,ds,rfl,h1,hs⟩:=hs.cons_inv
 obtain⟨d2,ds,rfl,h2,hs⟩:=hs.cons_inv
 obtain⟨d3,ds,rfl,h3,hs⟩:=hs.cons_inv
 obtain⟨d4,ds,rfl,h4,hs⟩:=hs.cons_inv
 obtain⟨d5,ds,rfl,h5,hs⟩:=hs.cons_inv
 obtain⟨d6,ds,rfl,h6,hs⟩:=hs.cons_inv
 obtain⟨d7,ds,rfl,h7,hs⟩:=hs.cons_inv
 obtain⟨d8,ds,rfl,h8,hs⟩:=hs.cons_inv
 obtain⟨d9,ds,rfl,h9,hs⟩:=hs.cons_inv
 obtain⟨d10,ds,rfl,h10,hs⟩:=hs.cons_inv
 obtain⟨d11,ds,rfl,h11,hs⟩:=hs.cons_inv
 obtain⟨d12,ds,rfl,h12,hs⟩:=hs.cons_inv
 obtain⟨d13,ds,rfl,h13,hs⟩:=hs.cons_inv
 obtain⟨d14,ds,rfl,h14,hs⟩:=hs.cons_inv
 obtain⟨d15,ds,rfl,h15,hs⟩:=hs.cons_inv
 obtain⟨d16,ds,rfl,h16,hs⟩:=hs.cons_inv
 obtain⟨d17,ds,rfl,h17,hs⟩:=hs.cons_inv
 obtain⟨d18,ds,rfl,h18,hs⟩:=hs.cons_inv
 obtain rfl:=hs.nil_inv
 obtain⟨n0,rfl,b0⟩:=h0.i64_inv
 obtain⟨n1,rfl,b1⟩:=h1.i64_inv
 obtain⟨n2,rfl,b2⟩:=h2.i64_inv
 obtain⟨n3,rfl,b3⟩:=h3.i64_inv
 obtain⟨n4,rfl,b4⟩:=h4.i64_inv
 obtain⟨n5,rfl,b5⟩:=h5.i64_inv
 obtain⟨n6,rfl,b6⟩:=h6.i64_inv
 obtain⟨n7,rfl,b7⟩:=h7.i64_inv
 obtain⟨n8,rfl,b8⟩:=h8.i64_inv
 obtain⟨n9,rfl,b9⟩:=h9.i64_inv
 obtain⟨n10,rfl,b10⟩:=h10.i64_inv
 obtain⟨n11,rfl,b11⟩:=h11.i64_inv
 obtain⟨n12,rfl,b12⟩:=h12.i64_inv
 obtain⟨n13,rfl,b13⟩:=h13.i64_inv
 obtain⟨n14,rfl,b14⟩:=h14.i64_inv
 obtain⟨n15,rfl,b15,c15⟩:=aaj h15
 obtain⟨n16,rfl,b16,c16⟩:=YP h16
 obtain⟨n17,rfl,b17,c17⟩:=abm h17
 obtain⟨n18,rfl,b18,c18⟩:=aaf h18
 exact⟨⟨⟨n0,n1,n2,n3,n4,⟨n5,n6,n7⟩,n8,n9,n10,n11,n12,n13,n14⟩,n15,n16,n17,n18⟩,rfl,⟨⟨b0,b1,b2,b3,b4,⟨b5,b6,b7⟩,b8,b9,b10,b11,b12,b13,b14⟩,⟨b15,c15⟩,⟨b16,c16⟩,⟨b17,c17⟩,⟨b18,c18⟩⟩⟩
structure Case where
 file:File
 sign:Int
 holder:Int
 defence:Int
 due:Int
 day:Int
 deriving Inhabited
def bp (x:Case):D:=.agg [.int x.file.bill.drawer,.int x.file.bill.drawee,.int x.file.bill.payee,.int x.file.bill.sum,.int x.file.bill.currency,.int x.file.bill.tenor.kind,.int x.file.bill.tenor.n,.int x.file.bill.tenor.unit,.int x.file.bill.day,.int x.file.bill.city,.int x.file.bill.pay,.int x.file.bill.need,.int x.file.bill.rate,.int x.file.bill.flags,.int x.file.bill.parts,signs x.file.signs,alters x.file.alters,acts x.file.acts,facts x.file.facts,.int x.sign,.int x.holder,.int x.defence,.int x.due,.int x.day]
@[simp] theorem ae7 (x:Case):(bp x).cells=[.int x.file.bill.drawer,.int x.file.bill.drawee,.int x.file.bill.payee,.int x.file.bill.sum,.int x.file.bill.currency,.int x.file.bill.tenor.kind,.int x.file.bill.tenor.n,.int x.file.bill.tenor.unit,.int x.file.bill.day,.int x.file.bill.city,.int x.file.bill.pay,.int x.file.bill.need,.int x.file.bill.rate,.int x.file.bill.flags,.int x.file.bill.parts,signs x.file.signs,alters x.file.alters,acts x.file.acts,facts x.file.facts,.int x.sign,.int x.holder,.int x.defence,.int x.due,.int x.day]:=_root_.id rfl
@[simp] theorem ajC (x:Case):D.agg [.int x.file.bill.drawer,.int x.file.bill.drawee,.int x.file.bill.payee,.int x.file.bill.sum,.int x.file.bill.currency,.int x.file.bill.tenor.kind,.int x.file.bill.tenor.n,.int x.file.bill.tenor.unit,.int x.file.bill.day,.int x.file.bill.city,.int x.file.bill.pay,.int x.file.bill.need,.int x.file.bill.rate,.int x.file.bill.flags,.int x.file.bill.parts,signs x.file.signs,alters x.file.alters,acts x.file.acts,facts x.file.facts,.int x.sign,.int x.holder,.int x.defence,.int x.due,.int x.day]=bp x:=_root_.id rfl
@[simp] theorem aaw (x:Case):vL 24 (bp x)=bp x:=_root_.id rfl
@[simp] theorem aak (x:Case)(a0 a1 a2 a3 a4 a5 a6 a7 a8 a9 a10 a11 a12 a13 a14 a15 a16 a17 a18 a19 a20 a21 a22 a23:D):D.agg (aT [a0,a1,a2,a3,a4,a5,a6,a7,a8,a9,a10,a11,a12,a13,a14,a15,a16,a17,a18,a19,a20,a21,a22,a23] 0 [.int x.file.bill.drawer,.int x.file.bill.drawee,.int x.file.bill.payee,.int x.file.bill.sum,.int x.file.bill.currency,.int x.file.bill.tenor.kind,.int x.file.bill.tenor.n,.int x.file.bill.tenor.unit,.int x.file.bill.day,.int x.file.bill.city,.int x.file.bill.pay,.int x.file.bill.need,.int x.file.bill.rate,.int x.file.bill.flags,.int x.file.bill.parts,signs x.file.signs,alters x.file.alters,acts x.file.acts,facts x.file.facts,.int x.sign,.int x.holder,.int x.defence,.int x.due,.int x.day])=bp x:=_root_.id rfl
@[simp] theorem aiO (x:Case):(bp x).c 9=.int x.file.bill.city:=_root_.id rfl
@[simp] theorem ahW (x:Case):(bp x).c 10=.int x.file.bill.pay:=_root_.id rfl
@[simp] theorem ahc (x:Case):(bp x).c 15=signs x.file.signs:=_root_.id rfl
@[simp] theorem aia (x:Case):(bp x).c 19=.int x.sign:=_root_.id rfl
@[simp] theorem agW (x:Case):(bp x).c 20=.int x.holder:=_root_.id rfl
@[simp] theorem agR (x:Case):(bp x).c 21=.int x.defence:=_root_.id rfl
@[simp] theorem agY (x:Case):(bp x).c 22=.int x.due:=_root_.id rfl
@[simp] theorem ahN (x:Case):(bp x).c 23=.int x.day:=_root_.id rfl
def cases(l:List Case):D:=.list (l.map bp)
structure Cell where
 known:Bool
 n:Int
 deriving DecidableEq,Inhabited
def aG (x:Cell):D:=.agg [.bool x.known,.int x.n]
@[simp] theorem afA (x:Cell):(aG x).cells=[.bool x.known,.int x.n]:=_root_.id rfl
@[simp] theorem aiA (x:Cell):D.agg [.bool x.known,.int x.n]=aG x:=_root_.id rfl
@[simp] theorem ai8 (x:Cell):(aG x).c 0=.bool x.known:=_root_.id rfl
@[simp] theorem ajm (x:Cell):(aG x).c 1=.int x.n:=_root_.id rfl
def cells (l:List Cell):D:=.list (l.map aG)
@[simp] theorem ai7 (l:List Cell):(cells l).l=l.map aG:=_root_.id rfl
@[simp] theorem aeP (l:List Cell):(cells l).cells=[cells l]:=_root_.id rfl
structure Said where
 cell:Cell
 order:Int
 path:List Int
 err:Int
 deriving Inhabited
def me (x:Said):D:=.agg [.bool x.cell.known,.int x.cell.n,.int x.order,ints x.path,.int x.err]
@[simp] theorem afE (x:Said):(me x).cells=[.bool x.cell.known,.int x.cell.n,.int x.order,ints x.path,.int x.err]:=_root_.id rfl
@[simp] theorem aiV (x:Said):D.agg [.bool x.cell.known,.int x.cell.n,.int x.order,ints x.path,.int x.err]=me x:=_root_.id rfl
@[simp] theorem agq (x:Said):vL 5 (me x)=me x:=_root_.id rfl
structure Effect where
 sign:Int
 kind:Int
 firm:Int
 binds:Int
 text:Int
 sum:Int
 recourse:Bool
 deriving DecidableEq,Inhabited
def bG (x:Effect):D:=.agg [.int x.sign,.int x.kind,.int x.firm,.int x.binds,.int x.text,.int x.sum,.bool x.recourse]
@[simp] theorem adT (x:Effect):(bG x).cells=[.int x.sign,.int x.kind,.int x.firm,.int x.binds,.int x.text,.int x.sum,.bool x.recourse]:=_root_.id rfl
@[simp] theorem af3 (x:Effect):D.agg [.int x.sign,.int x.kind,.int x.firm,.int x.binds,.int x.text,.int x.sum,.bool x.recourse]=bG x:=_root_.id rfl
@[simp] theorem aeL (x:Effect):vL 7 (bG x)=bG x:=_root_.id rfl
@[simp] theorem af9 (x:Effect):(bG x).c 0=.int x.sign:=_root_.id rfl
@[simp] theorem age (x:Effect):(bG x).c 1=.int x.kind:=_root_.id rfl
@[simp] theorem agk (x:Effect):(bG x).c 2=.int x.firm:=_root_.id rfl
@[simp] theorem agt (x:Effect):(bG x).c 3=.int x.binds:=_root_.id rfl
@[simp] theorem afV (x:Effect):(bG x).c 4=.int x.text:=_root_.id rfl
@[simp] theorem agr (x:Effect):(bG x).c 5=.int x.sum:=_root_.id rfl
@[simp] theorem afO (x:Effect):(bG x).c 6=.bool x.recourse:=_root_.id rfl
def oy (l:List Effect):D:=.list (l.map bG)
@[simp] theorem af5 (l:List Effect):(oy l).l=l.map bG:=_root_.id rfl
@[simp] theorem ahQ (a0 x0:D):aT [a0] 0 [x0]=[x0]:=_root_.id rfl
@[simp] theorem aib (a0 a1 x0 x1:D):aT [a0,a1] 0 [x0,x1]=[x0,x1]:=_root_.id rfl
@[simp] theorem ahk (a0 a1 a2 x0 x1 x2:D):aT [a0,a1,a2] 0 [x0,x1,x2]=[x0,x1,x2]:=_root_.id rfl
@[simp] theorem agQ (a0 a1 a2 a3 x0 x1 x2 x3:D):aT [a0,a1,a2,a3] 0 [x0,x1,x2,x3]=[x0,x1,x2,x3]:=_root_.id rfl
@[simp] theorem ahd (a0 a1 a2 a3 a4 x0 x1 x2 x3 x4:D):aT [a0,a1,a2,a3,a4] 0 [x0,x1,x2,x3,x4]=[x0,x1,x2,x3,x4]:=_root_.id rfl
@[simp] theorem ahj (a0 a1 a2 a3 a4 a5 x0 x1 x2 x3 x4 x5:D):aT [a0,a1,a2,a3,a4,a5] 0 [x0,x1,x2,x3,x4,x5]=[x0,x1,x2,x3,x4,x5]:=_root_.id rfl
@[simp] theorem ahC (a0 a1 a2 a3 a4 a5 a6 x0 x1 x2 x3 x4 x5 x6:D):aT [a0,a1,a2,a3,a4,a5,a6] 0 [x0,x1,x2,x3,x4,x5,x6]=[x0,x1,x2,x3,x4,x5,x6]:=_root_.id rfl
@[simp] theorem agB (a0 a1 a2 a3 a4 a5 a6 a7 a8 x0 x1 x2 x3 x4 x5 x6 x7 x8:D):aT [a0,a1,a2,a3,a4,a5,a6,a7,a8] 0 [x0,x1,x2,x3,x4,x5,x6,x7,x8]=[x0,x1,x2,x3,x4,x5,x6,x7,x8]:=_root_.id rfl
end Rm
set_option maxRecDepth 100000
namespace Rm
open Go Go.Proofs Cx
abbrev I:Ty:=.int .i64
abbrev Y0:Ty:=.agg [.str,I,I,(.slice I),(.slice I),(.slice I)]
abbrev Y1:Ty:=.agg [I]
abbrev Y2:Ty:=.agg [.str,I,I]
abbrev Y3:Ty:=.agg [I,I,.bool]
abbrev Y4:Ty:=.agg [I,I,I,(.slice .trm)]
abbrev Y5:Ty:=.agg [.str,.bool,(.slice Y3),(.slice Y4)]
abbrev Y6:Ty:=.agg [I,I,I]
abbrev Y7:Ty:=.agg [I,I,I,I,I]
abbrev Y8:Ty:=.agg [(.slice .str),(.slice Y0),(.slice Y1),(.slice Y2),(.slice Y5),(.slice Y6),(.slice Y7),(.slice Y6)]
abbrev Y9:Ty:=.agg [I,I,I,I,I,I,I,I,I]
abbrev Y10:Ty:=.agg [I,I]
abbrev Y11:Ty:=.agg [I,I,I,I,I,I,I,I,I,I,I,I,I,I,I,(.slice Y9),(.slice Y10),(.slice Y9),(.slice Y6)]
abbrev Y12:Ty:=.agg [I,I,I,I,I,I,.bool]
abbrev Y13:Ty:=.agg [I,I,I,I,I,I,I,I,I,I,I,I,I,I,I,(.slice Y9),(.slice Y10),(.slice Y9),(.slice Y6),I,I,I,I,I]
abbrev Y14:Ty:=.agg [.bool,I,I,(.slice I),I]
abbrev Y15:Ty:=.agg [.bool,I]
abbrev Y16:Ty:=.agg [(.slice .str),(.slice Y0),(.slice Y1),(.slice Y2),(.slice Y5),(.slice Y6),(.slice Y7),(.slice Y6),I,I,I,I,I,I,I,I,I,I,I,I,I,I,I,I,I,(.slice Y9),(.slice Y10),(.slice Y9),(.slice Y6),I,I]
abbrev Y17:Ty:=.agg [I,I,I,I,I,I,I,I,I,I,I,I,I,I,I]
abbrev Y18:Ty:=.agg [I,I,(.slice .trm)]
abbrev Y19:Ty:=.agg [(.slice Y15)]
abbrev Y20:Ty:=.agg [(.slice I),I]
def aq:List (Nat×Sig):=[
 (4,⟨[Y8,I,Y11,I,I,(.slice Y6)],.bool,.dat⟩),
 (5,⟨[Y8,I,Y11,I,(.slice Y6)],.bool,.dat⟩),
 (6,⟨[Y8,I,Y11,(.int .u8),I,(.int .u16)],.bool,.dat⟩),
 (15,⟨[],.bool,.dat⟩),
 (16,⟨[Y8,Y11],.bool,.dat⟩),
 (17,⟨[Y8,I,Y11,I,I],(.tup [Y12,.bool]),.dat⟩),
 (19,⟨[(.slice Y12),(.slice Y12)],.bool,.dat⟩),
 (20,⟨[Y8,I,Y11,I],(.slice Y12),.dat⟩),
 (22,⟨[I,I],I,.dat⟩),
 (24,⟨[Y8,Y11],I,.dat⟩),
 (25,⟨[Y11,Y6],Y11,.dat⟩),
 (26,⟨[Y11,I],Y11,.dat⟩),
 (36,⟨[Y8,I,I,Y13],Y14,.dat⟩),
 (38,⟨[Y8,I,I,Y11,I],Y14,.dat⟩),
 (41,⟨[Y14],I,.dat⟩),
 (43,⟨[Y14],I,.dat⟩),
 (50,⟨[Y8,I,Y11,I],I,.dat⟩),
 (52,⟨[Y8,Y13],(.slice Y15),.dat⟩),
 (53,⟨[Y8,I],I,.dat⟩),
 (54,⟨[Y8,I,I,(.slice I)],(.tup [(.slice I),I]),.dat⟩),
 (55,⟨[Y5,I,(.slice Y15)],(.tup [Y15,I]),.dat⟩),
 (58,⟨[],(.tup [Y8,Y11]),.dat⟩),
 (59,⟨[Y8,Y11],.bool,.dat⟩),
 (60,⟨[Y8],I,.dat⟩),
 (61,⟨[Y8,I,Y11,I],Y16,.dat⟩),
 (62,⟨[Y16,I],Y12,.dat⟩),
 (65,⟨[(.slice I)],I,.dat⟩),
 (66,⟨[Y8,Y17],I,.dat⟩),
 (67,⟨[Y8,Y11,I],I,.dat⟩),
 (68,⟨[I,I,I],.bool,.dat⟩),
 (69,⟨[Y8,Y11,I],I,.dat⟩),
 (70,⟨[Y11,I],I,.dat⟩),
 (71,⟨[Y11,I,I],Y15,.dat⟩),
 (72,⟨[I,I],.bool,.dat⟩),
 (75,⟨[Y8],I,.dat⟩),
 (95,⟨[Y8,I,I,Y13],(.tup [Y14,(.slice Y15)]),.dat⟩),
 (100,⟨[Y8,Y13],(.tup [Y13,(.slice Y15)]),.dat⟩),
 (101,⟨[Y8,I,Y13],(.nsl I),.dat⟩),
 (105,⟨[Y8,Y17,I,I],(.tup [I,I]),.dat⟩),
 (106,⟨[Y11],I,.dat⟩),
 (109,⟨[(.slice Y10),(.fn [Y10] .bool)],.bool,.dat⟩),
 (110,⟨[Y10,(.ref Y13)],.bool,.dat⟩),
 (111,⟨[.bool],Y15,.dat⟩),
 (112,⟨[Y11,I,I],Y15,.dat⟩),
 (113,⟨[I,I],.bool,.dat⟩),
 (114,⟨[Y8,I,I,(.slice I)],.bool,.dat⟩),
 (115,⟨[Y8,I,I,(.slice I)],(.tup [I,.bool]),.dat⟩),
 (116,⟨[(.slice I),I],.bool,.dat⟩),
 (117,⟨[Y5,I],(.tup [Y18,I]),.dat⟩),
 (118,⟨[Y18,(.slice Y15)],Y15,.dat⟩),
 (119,⟨[I],(.tup [I,.bool]),.dat⟩),
 (120,⟨[I],.bool,.dat⟩),
 (121,⟨[Y0,I],.bool,.dat⟩),
 (122,⟨[I],Y18,.dat⟩),
 (123,⟨[Y8],.bool,.dat⟩),
 (124,⟨[Y11],.bool,.dat⟩),
 (125,⟨[Y5],.bool,.dat⟩),
 (126,⟨[Y8],I,.dat⟩),
 (127,⟨[Y8],I,.dat⟩),
 (128,⟨[Y8],I,.dat⟩),
 (129,⟨[Y8],I,.dat⟩),
 (130,⟨[Y8],I,.dat⟩),
 (131,⟨[Y11,I,I],.bool,.dat⟩),
 (132,⟨[Y16,I,I],I,.dat⟩),
 (133,⟨[Y16,I],(.tup [I,I]),.dat⟩),
 (138,⟨[I,I],.bool,.dat⟩),
 (139,⟨[I,I],.bool,.dat⟩),
 (140,⟨[I],.bool,.dat⟩),
 (141,⟨[Y17],.bool,.dat⟩),
 (142,⟨[Y8,I,I],(.tup [I,I]),.dat⟩),
 (143,⟨[Y8,Y11,I],.bool,.dat⟩),
 (144,⟨[Y8,Y11,Y9],.bool,.dat⟩),
 (145,⟨[Y8],(.tup [(.slice .str),(.slice .str),(.slice .str)]),.dat⟩),
 (146,⟨[(.slice .str),I,(.fn [I] .bool)],I,.dat⟩),
 (147,⟨[I],.bool,.dat⟩),
 (148,⟨[I,(.ref Y8)],.bool,.dat⟩),
 (149,⟨[Y8,Y0],.bool,.dat⟩),
 (150,⟨[I,(.ref Y8)],.bool,.dat⟩),
 (151,⟨[I,(.ref Y8)],.bool,.dat⟩),
 (152,⟨[Y5],.bool,.dat⟩),
 (153,⟨[Y8],I,.dat⟩),
 (154,⟨[Y8],I,.dat⟩),
 (161,⟨[Y8,I,I],(.tup [I,I]),.dat⟩),
 (173,⟨[Y8,I],.bool,.dat⟩),
 (174,⟨[I],.bool,.dat⟩),
 (175,⟨[Y6],.bool,.dat⟩),
 (176,⟨[Y8,Y17,I],(.tup [I,I]),.dat⟩),
 (177,⟨[Y8,I,I],(.tup [I,I]),.dat⟩),
 (178,⟨[(.slice I)],I,.dat⟩),
 (183,⟨[(.slice Y10),(.fn [Y10] .bool)],I,.dat⟩),
 (184,⟨[(.slice I),(.fn [I] .bool)],.bool,.dat⟩),
 (185,⟨[I,(.ref I)],.bool,.dat⟩),
 (186,⟨[(.slice I),I],I,.dat⟩),
 (187,⟨[(.slice Y4),(.fn [Y4] .bool)],I,.dat⟩),
 (188,⟨[Y4,(.ref I)],.bool,.dat⟩),
 (189,⟨[Y18],(.tup [I,I]),.dat⟩),
 (190,⟨[Y19,Y18],(.tup [Y15,(.slice I)]),.dat⟩),
 (191,⟨[I],(.tup [I,I,I]),.dat⟩),
 (192,⟨[Y18],.bool,.dat⟩),
 (193,⟨[(.slice .str),I],I,.dat⟩),
 (194,⟨[Y8,Y0],.bool,.dat⟩),
 (195,⟨[Y5],.bool,.dat⟩),
 (196,⟨[Y11,I],(.map I .bool),.dat⟩),
 (197,⟨[Y11,I],I,.dat⟩),
 (198,⟨[Y11,I],.bool,.dat⟩),
 (199,⟨[Y11,I,I],.bool,.dat⟩),
 (200,⟨[(.slice .str),I],I,.dat⟩),
 (201,⟨[(.slice I),I,I],.bool,.dat⟩),
 (215,⟨[I,Y6],(.tup [I,I]),.dat⟩),
 (216,⟨[Y8,I,I],I,.dat⟩),
 (217,⟨[Y0,I],(.tup [I,I]),.dat⟩),
 (220,⟨[(.slice I),(.fn [I] .bool)],I,.dat⟩),
 (221,⟨[Y18,I],I,.dat⟩),
 (222,⟨[Y18],(.tup [I,I]),.dat⟩),
 (223,⟨[Y19,I],Y15,.dat⟩),
 (224,⟨[I,(.slice Y15)],Y15,.dat⟩),
 (225,⟨[(.slice (.slice I))],(.slice I),.dat⟩),
 (226,⟨[Y18,I,I],I,.dat⟩),
 (227,⟨[.str],.bool,.dat⟩),
 (228,⟨[(.slice .str),I,.str],.bool,.dat⟩),
 (229,⟨[(.slice I),I,I],.bool,.dat⟩),
 (230,⟨[.str],.bool,.dat⟩),
 (231,⟨[(.slice .str),.str],.bool,.dat⟩),
 (239,⟨[I,I],(.tup [I,I]),.dat⟩),
 (240,⟨[Y0,I,I],(.fn [(.fn [I] .bool)] (.tup [])),.dat⟩),
 (245,⟨[Y18],(.tup [I,I]),.dat⟩),
 (246,⟨[I],Y20,.dat⟩),
 (247,⟨[I],(.tup [I,.bool]),.dat⟩),
 (248,⟨[.bool],Y15,.dat⟩),
 (249,⟨[I],I,.dat⟩),
 (250,⟨[I,I,I],I,.dat⟩),
 (251,⟨[.nils .bool,I],(.slice I),(.row 3 I)⟩),
 (252,⟨[(.int .u8)],.bool,.dat⟩),
 (253,⟨[(.slice .str),.str],I,.dat⟩),
 (272,⟨[I,I,I],(.tup [I,I]),.dat⟩),
 (273,⟨[I,I],I,.dat⟩),
 (278,⟨[I,I],I,.dat⟩),
 (284,⟨[I,I,I],I,.dat⟩),
 (285,⟨[(.int .u64),(.int .u64)],(.tup [(.int .u64),(.int .u64)]),.dat⟩)]
def afo:List (Nat×CSig):=[
 (110,⟨[(.ref Y13)],[Y10],.bool⟩),
 (147,⟨[],[I],.bool⟩),
 (148,⟨[(.ref Y8)],[I],.bool⟩),
 (150,⟨[(.ref Y8)],[I],.bool⟩),
 (151,⟨[(.ref Y8)],[I],.bool⟩),
 (185,⟨[(.ref I)],[I],.bool⟩),
 (188,⟨[(.ref I)],[Y4],.bool⟩),
 (274,⟨[(.ref I),(.ref I),(.ref Y0)],[(.fn [I] .bool)],(.tup [])⟩)]
abbrev tX:Nat:=6
abbrev Kv:Nat:=15
abbrev SB:Nat:=16
abbrev Cr:Nat:=17
abbrev PV:Nat:=19
abbrev mH:Nat:=20
abbrev Qr:Nat:=22
abbrev KQ:Nat:=24
abbrev Ka:Nat:=26
abbrev Tg:Nat:=36
abbrev PB:Nat:=38
abbrev SL:Nat:=41
abbrev GN:Nat:=43
abbrev zN:Nat:=50
abbrev CQ:Nat:=52
abbrev xG:Nat:=53
abbrev zO:Nat:=54
abbrev y5:Nat:=55
abbrev CM:Nat:=58
abbrev SI:Nat:=59
abbrev Km:Nat:=60
abbrev JS:Nat:=61
abbrev rQ:Nat:=62
abbrev Ay:Nat:=65
abbrev KH:Nat:=66
abbrev KD:Nat:=67
abbrev wY:Nat:=68
abbrev Nf:Nat:=69
abbrev KG:Nat:=70
abbrev xM:Nat:=72
abbrev CE:Nat:=75
abbrev N5:Nat:=95
abbrev VX:Nat:=100
abbrev Tl:Nat:=101
abbrev tE:Nat:=105
abbrev B8:Nat:=106
abbrev gx:Nat:=109
abbrev xR:Nat:=110
abbrev zY:Nat:=111
abbrev B3:Nat:=112
abbrev NZ:Nat:=113
abbrev xT:Nat:=114
abbrev vI:Nat:=115
abbrev mY:Nat:=116
abbrev FI:Nat:=117
abbrev KW:Nat:=118
abbrev EO:Nat:=119
abbrev vK:Nat:=120
abbrev xS:Nat:=121
abbrev yW:Nat:=122
abbrev Sb:Nat:=123
abbrev R7:Nat:=124
abbrev Sq:Nat:=125
abbrev GO:Nat:=126
abbrev KC:Nat:=127
abbrev EG:Nat:=128
abbrev Ch:Nat:=129
abbrev GV:Nat:=130
abbrev zP:Nat:=131
abbrev vJ:Nat:=132
abbrev vD:Nat:=133
abbrev WS:Nat:=138
abbrev P0:Nat:=139
abbrev KA:Nat:=140
abbrev KY:Nat:=141
abbrev F8:Nat:=142
abbrev Nu:Nat:=143
abbrev Kl:Nat:=144
abbrev Cv:Nat:=145
abbrev GJ:Nat:=146
abbrev qh:Nat:=147
abbrev oO:Nat:=148
abbrev GC:Nat:=149
abbrev pZ:Nat:=150
abbrev pO:Nat:=151
abbrev B5:Nat:=152
abbrev x9:Nat:=153
abbrev GP:Nat:=154
abbrev zm:Nat:=161
abbrev sH:Nat:=173
abbrev jD:Nat:=174
abbrev sK:Nat:=175
abbrev qP:Nat:=176
abbrev sD:Nat:=177
abbrev wg:Nat:=178
abbrev jI:Nat:=183
abbrev iZ:Nat:=184
abbrev l7:Nat:=185
abbrev sn:Nat:=186
abbrev kZ:Nat:=187
abbrev sJ:Nat:=188
abbrev G6:Nat:=189
abbrev kJ:Nat:=190
abbrev vW:Nat:=191
abbrev Te:Nat:=192
abbrev oz:Nat:=193
abbrev oS:Nat:=194
abbrev nl:Nat:=195
abbrev Al:Nat:=196
abbrev B4:Nat:=197
abbrev Kw:Nat:=198
abbrev V5:Nat:=199
abbrev CN:Nat:=200
abbrev Ak:Nat:=201
abbrev Cp:Nat:=215
abbrev Fi:Nat:=216
abbrev yp:Nat:=217
abbrev mK:Nat:=220
abbrev AF:Nat:=221
abbrev FU:Nat:=222
abbrev oC:Nat:=223
abbrev zU:Nat:=224
abbrev qv:Nat:=225
abbrev Qo:Nat:=226
abbrev N1:Nat:=227
abbrev ES:Nat:=228
abbrev Fb:Nat:=229
abbrev zJ:Nat:=230
abbrev jv:Nat:=231
abbrev oK:Nat:=239
abbrev yg:Nat:=240
abbrev KI:Nat:=245
abbrev AB:Nat:=246
abbrev zG:Nat:=247
abbrev Qj:Nat:=248
abbrev Qm:Nat:=249
abbrev tP:Nat:=250
abbrev Fc:Nat:=252
abbrev m0:Nat:=253
abbrev zq:Nat:=272
abbrev tn:Nat:=273
abbrev ub:Nat:=274
abbrev zk:Nat:=278
abbrev ll:Nat:=284
abbrev GL:Nat:=285
noncomputable def ctx:Ctx:={P:=Tryz.prog,cap:=aa afo,sig:=aa aq,msig:=fun _=>none,glob:=TC 0 [6,7,10,12,13,14,15,16,20,21]}
abbrev Yj:PE:=.ai .quo .i64 (aO (aF (aO (.ai .rem .i64 (aF r0 (pi 730425)) (pi 146097)) (.ai .quo .i64 (.ai .rem .i64 (aF r0 (pi 730425)) (pi 146097)) (pi 1460))) (.ai .quo .i64 (.ai .rem .i64 (aF r0 (pi 730425)) (pi 146097)) (pi 36524))) (.ai .quo .i64 (.ai .rem .i64 (aF r0 (pi 730425)) (pi 146097)) (pi 146096))) (pi 365)
abbrev DJ:PE:=.con (.agg [(.int 0),(.int 0),(.int 0),(.int 0),(.int 0),(.int 0),(.int 0),(.int 0),(.int 0),(.int 0),(.int 0),(.int 0),(.int 0),(.int 0),(.int 0),(.list []),(.list []),(.list []),(.list [])])
abbrev VN:PE:=.con (.agg [(.int 0),(.int 0),(.int 0),(.int 0),(.int 0),(.int 0),(.bool false)])
abbrev pV:PE:=.con (.agg [(.bool false),(.int 0)])
abbrev adI:PE:=.ai .quo .i64 (aF (.ai .mul .i64 (pi 5) (aO (.ai .rem .i64 (aF r0 (pi 730425)) (pi 146097)) (aO (aF (.ai .mul .i64 (pi 365) Yj) (.ai .quo .i64 Yj (pi 4))) (.ai .quo .i64 Yj (pi 100))))) (pi 2)) (pi 153)
abbrev acq:PE:=.con (.agg [(.list []),(.list []),(.list []),(.list []),(.list []),(.list []),(.list []),(.list []),(.int 0),(.int 0),(.int 0),(.int 0),(.int 0),(.int 0),(.int 0),(.int 0),(.int 0),(.int 0),(.int 0),(.int 0),(.int 0),(.int 0),(.int 0),(.int 0),(.int 0),(.list []),(.list []),(.list []),(.list []),(.int 0),(.int 0)])
abbrev QU:PE:=.deref (.con (.ref (.agg [(.int 6),(.int 7),(.int 10),(.int 12),(.int 13),(.int 14),(.int 15),(.int 16),(.int 20),(.int 21)])))
abbrev adE:PE:=.put (.put (.put (.put (.con (.map [])) (pi 7) (pne (.ai .and .i64 (pc o6 13) (pi 1)) (pi 0))) (pi 8) (peq (pc o6 2) (pi (-1)))) (pi 9) (pne (.ai .and .i64 (pc o6 13) (pi 4)) (pi 0))) (pi 10) (pne (.ai .and .i64 (pc o6 13) (pi 2)) (pi 0))
abbrev F1:PE:=.setc z3 0 (.mk [(pc (.mk [r0]) 5),(pc (.mk [r0]) 6),(pc (.mk [r0]) 7)])
abbrev aci:PE:=.pick (.pick (pne (pc (pn r14 r16) 3) (pi 2)) (pne (pc (pn r15 r16) 3) (pc (pn r14 r16) 3)) pF) pT (.pick (pne (pc (pn r14 r16) 4) (pi 2)) (pne (pc (pn r15 r16) 4) (pc (pn r14 r16) 4)) pF)
abbrev qx:PE:=.con (.agg [(.int 0),(.int 0),(.list [])])
abbrev abh:PE:=.mk [(pc (.mk [r0]) 10),(pc (.mk [r0]) 11),(pc (.mk [r0]) 12),(pc (.mk [r0]) 13),(pc (.mk [r0]) 14),(pc (.mk [r0]) 15),(pc (.mk [r0]) 16),(pc (.mk [r0]) 17),(pc (.mk [r0]) 18),(pc (.mk [r0]) 19),(pc (.mk [r0]) 20),(pc (.mk [r0]) 21),(pc (.mk [r0]) 22),(pc (.mk [r0]) 23),(pc (.mk [r0]) 24),(pc (.mk [r0]) 25),(pc (.mk [r0]) 26),(pc (.mk [r0]) 27),(pc (.mk [r0]) 28)]
abbrev Qt:PE:=mkA 7 (.pick (peq r20 r15) (.setc (.setc VN 0 (pn r17 r20)) 3 (pi 0)) (.setc VN 0 (pn r17 r20)))
abbrev aX:PE:=pi 4294967296
abbrev rR:PE:=.con (.agg [(.list []),(.int 0)])
abbrev Su:PE:=.mk [(pc (.setc pV 0 r27) 0),(pc (.setc pV 0 r27) 1)]
abbrev SM:PE:=.setc z9 0 (pn (pc (.mk [r2]) 15) (pc (.mk [r2]) 19))
abbrev mT:PE:=.setc (.mk [r3]) 18 pL
abbrev acC:PE:=.put (.put (.put (.con (.map [])) (pi 0) (pc o6 3)) (pi 1) (pc o6 14)) (pi 2) (pc o6 5)
abbrev Zo:PE:=.pick (.pick (peq (.tget r28 0) (pi 0)) (pc o10 0) pF) (.setc o10 1 (.mn (.mx (pc o10 1) (pi 0)) (pi 20000))) o10
abbrev WU:PE:=.mk [(pc (.setc o4 0 (.mk [pF,(pi 0)])) 0),(pc (.setc o4 0 (.mk [pF,(pi 0)])) 1)]
abbrev R2:PE:=.con (.agg [(.bool false),(.int 0),(.int 0),(.list []),(.int 0)])
abbrev Zx:PE:=.con (.agg [(.int 0),(.int 0),(.bool false)])
abbrev aeS:PE:=.ai .add .u64 (.ai .mul .u64 (.ai .shr .u64 r0 (.con (.v (.int .u64 32)))) (.ai .and .u64 r1 (.con (.v (.int .u64 4294967295))))) (.ai .shr .u64 (.ai .mul .u64 (.ai .and .u64 r0 (.con (.v (.int .u64 4294967295)))) (.ai .and .u64 r1 (.con (.v (.int .u64 4294967295))))) (.con (.v (.int .u64 32))))
abbrev NA:PE:=.setc (.setc o10 3 (.tget r46 0)) 4 (.tget r46 1)
abbrev oJ:PE:=mkA 8 (.mk [r0])
abbrev ZS:PE:=aF (aO (aF (.ai .mul .i64 (pi 12) (.tget r23 0)) (.tget r23 1)) (pi 1)) r1
abbrev aeq:PE:=.con (.agg [(.int 0),(.int 0),(.int 0),(.int 0),(.int 0),(.int 0),(.int 0),(.int 0),(.int 0),(.int 0),(.int 0),(.int 0),(.int 0),(.int 0),(.int 0),(.list []),(.list []),(.list []),(.list []),(.int 0),(.int 0),(.int 0),(.int 0),(.int 0)])
abbrev Ps:PE:=pc (.mk [r0]) 2
abbrev SN:PE:=.setc z3 0 (pn (pc o2 18) r8)
abbrev R5:PE:=.setc z3 0 (pn (pc o2 18) r6)
abbrev mP:PE:=.setc o2 18 pN
abbrev Cd:PE:=peq (pc o5 8) (pi 0)
abbrev mV:PE:=pn r14 r16
abbrev Qc:PE:=mkA 7 (.setc VN 0 (.tget r96 0))
abbrev sO:PE:=pc (.mk [r0]) 0
abbrev sr:PE:=.llen (pc o1 1)
abbrev ac6:PE:=.mk [(pc (.setc o4 0 (.mk [(pi 0),(pi 0),pL])) 0),(pc (.setc o4 0 (.mk [(pi 0),(pi 0),pL])) 1),pL]
abbrev Vy:PE:=.pick r7 (peq (pc o5 4) (pi (-1))) pF
abbrev Sy:PE:=.setc z3 0 (pn r12 r14)
abbrev abv:PE:=.an (.nt (.pick (pne (pc mV 3) (pi 2)) (pne (pc (pn r15 r16) 3) (pc mV 3)) pF)) pT
abbrev vH:PE:=.llen (pc o1 3)
abbrev aee:PE:=.pick (.pick (peq (.tget r19 0) (.con (.v (.int .u64 0)))) (plt (.tget r19 1) (.con (.v (.int .u64 1099511627776)))) pF) (.conv .i64 (.tget r19 1)) (pi 1099511627776)
abbrev abp:PE:=mkA 5 (.setc o8 0 (.mk [(pc o10 0),(pc o10 1),(pc o10 2),(.o 16394),(pc o10 4)]))
abbrev acZ:PE:=.mk [(pc (.setc o6 0 (.mk [pF,(pi 0)])) 0),(pc (.setc o6 0 (.mk [pF,(pi 0)])) 1)]
abbrev aey:PE:=.app (.app (.lst []) (pc o14 17)) (.lst [(.mk [(pi 7),(pi 0),(pi (-1)),(pi 0),(.ai .rem .i64 (.conv .i64 r3) (.llen (pc o14 15))),(pi 0),r4,(pi 0),(pi 0)])])
abbrev ya:PE:=.llen (pc o3 2)
abbrev xP:PE:=.llen (pc o1 4)
abbrev aeQ:PE:=.pick (.pick (.pick (plt (pc SM 2) (pi 0)) pT (pge (pc SM 2) (.llen (pc (.mk [r0]) 3)))) pT (plt r1 (pi 0))) pT (pge r1 (.llen (pc (.mk [r0]) 4)))
abbrev AN:PE:=pc (.mk [r0]) 15
abbrev abW:PE:=.put (.con (.map [])) (pi 7) (pne (.ai .and .i64 (pc o6 13) (pi 1)) (pi 0))
abbrev V0:PE:=.setc z9 0 (pn (pc (.mk [r0]) 25) r1)
abbrev aea:PE:=.app o2 (.lst [(pc (.setc (.con (.agg [(.v (.string ⟨#[]⟩)),(.int 0),(.int 0),(.list []),(.list []),(.list [])])) 0 (pn r12 r14)) 0)])
abbrev V3:PE:=aO (pi 2) (pc (pn o7 (pi 0)) 1)
abbrev ael:PE:=.pick (peq (pc o5 0) (pi 0)) (peq (pc o5 0) (pi 0)) (.pick (peq (pc o5 0) (pi 1)) (peq (pc o5 0) (pi 1)) (peq (pc o5 0) (pi 2)))
abbrev ZU:PE:=.setc qx 0 (.sub (pn (pc o2 3) r23) 1 3)
abbrev Cu:PE:=.llen (pc o1 2)
abbrev aeC:PE:=.setc (.con (.agg [(.list []),(.list []),(.list []),(.list []),(.list []),(.list []),(.list []),(.list [])])) 0 (.tget r9 0)
abbrev Zi:PE:=.pick (plt r1 (pi 3)) (aO r0 (pi 1)) r0
abbrev aeI:PE:=.app o4 (.lst [(pc (.setc (.con (.agg [(.v (.string ⟨#[]⟩)),(.bool false),(.list []),(.list [])])) 0 (pn r38 r40)) 0)])
abbrev B9:PE:=aF r8 (pi 1)
abbrev SF:PE:=.con (.v (.int .u64 32))
abbrev Gq:PE:=pc (.mk [r0]) 1
abbrev ad0:PE:=.put (.put (.put adE (pi 11) (pne ae0 aeU)) (pi 12) r13) (pi 13) (pne (.ai .and .i64 (pc o8 8) (pi 1)) (pi 0))
abbrev zd:PE:=pn r1 (pi 1)
abbrev wc:PE:=pn r18 r20
abbrev ZI:PE:=.setc z9 0 (pn (pc (.mk [r1]) 15) r2)
abbrev J2:PE:=.llen (pc o3 18)
abbrev J3:PE:=.llen (pc o3 15)
abbrev ab5:PE:=.pick aci pT (plt (pc (pn r15 r16) 5) (pc mV 5))
abbrev ab3:PE:=.put (.put acC (pi 3) (pc o6 12)) (pi 4) (pc o8 0)
abbrev ad8:PE:=.pick (pgt (.llen (pc (pn (pc o1 1) r3) 4)) (pi 70)) pT (pgt (.llen (pc (pn (pc o1 1) r3) 5)) (pi 210))
abbrev yP:PE:=plt r14 r13
abbrev WO:PE:=.setc Zx 0 (pn r23 r25)
abbrev Ab:PE:=.llen Ps
abbrev aek:PE:=.app o3 (.lst [(pc (.setc (.con (.agg [(.v (.string ⟨#[]⟩)),(.int 0),(.int 0)])) 0 (pn r25 r27)) 0)])
abbrev aeR:PE:=.app o4 (.lst [(pc (.setc (.con (.agg [(.int 0),(.int 0),(.int 0),(.list [])])) 0 (pn r27 r29)) 0)])
abbrev JT:PE:=.llen (pc o1 0)
abbrev aex:PE:=.an (.cb .eql (pc (pn r1 (pi 0)) 0) (pc Su 0)) (.an (peq (pc (pn r1 (pi 0)) 1) (pc Su 1)) pT)
abbrev aeg:PE:=.app (.o 69637) (.lst [(.mk [(pc (.setc z2 0 (pn r54 r56)) 0),(pc (.setc z2 0 (pn r54 r56)) 1)])])
abbrev FZ:PE:=peq r5 (pi 0)
abbrev WX:PE:=peq (pc o5 5) (pi 0)
abbrev acu:PE:=.setc o4 0 (.mk [(pc o9 0),(pc o9 1),(pc o9 2)])
abbrev acO:PE:=.setc (.setc o6 4 (.tget r49 0)) 5 (.tget r49 1)
abbrev aei:PE:=.pick (.nt (.nt (.an (.an r14 pT) (.nt pF)))) (.app (.o 1000) (.lst [(.tup [r5])])) (.o 1000)
abbrev KP:PE:=aF r3 (pi 1)
abbrev Ta:PE:=pne (pi 100) (pi 0)
abbrev aeO:PE:=.pick (pgt (aF adI (pi 3)) (pi 12)) (aO (aF adI (pi 3)) (pi 12)) (aF adI (pi 3))
abbrev Oq:PE:=.llen (pc o2 18)
abbrev ad6:PE:=.setc o4 0 (.mk [(pc (.setc pV 0 (.tget r21 0)) 0),(pc (.setc pV 0 (.tget r21 0)) 1)])
abbrev VH:PE:=.setc z9 0 (pn r34 r36)
abbrev Zm:PE:=pc (pn (pc o4 15) (pc o7 3)) 0
abbrev Zl:PE:=.setc pV 0 (.mk [pT,(pi 1)])
abbrev Zu:PE:=.setc pV 0 (.mk [pT,(pi 0)])
abbrev Py:PE:=pn (pc o1 4) r4
abbrev ac4:PE:=peq (.sidx r0 r3) (.con (.v (.int .u8 95)))
abbrev PL:PE:=pc (.mk [r0]) 5
abbrev abk:PE:=.setc z3 0 (pn (pc o2 18) (aO r1 (pi 1)))
abbrev aeD:PE:=.pick (.pick (peq (pc Sy 0) r1) (ple (pc Sy 1) r2) pF) (ple r2 (pc Sy 2)) pF
abbrev DO:PE:=.llen (pc o1 7)
abbrev N6:PE:=.con (.agg [(.int 0)])
abbrev abF:PE:=aF Yj (.ai .mul .i64 (pi 400) (.ai .quo .i64 (aF r0 (pi 730425)) (pi 146097)))
abbrev XE:PE:=.app o5 (.lst [(pc (pn (pc o1 1) r6) 0)])
abbrev YN:PE:=.app o4 (.lst [(pc (pn (pc o1 3) r5) 0)])
abbrev Dr:PE:=aO r2 (pi 1)
abbrev Ep:PE:=aF r5 (pi 1)
abbrev HU:PE:=pi 1099511627776
abbrev HZ:PE:=pc (.mk [r0]) 18
abbrev acA:PE:=.pick (peq (pc o5 0) (pi 7)) (peq (pc o5 0) (pi 7)) (peq (pc o5 0) (pi 8))
abbrev acg:PE:=.pick (peq (pc o5 0) (pi 3)) (peq (pc o5 0) (pi 3)) (peq (pc o5 0) (pi 5))
abbrev wU:PE:=pn r10 r12
abbrev UD:PE:=plt r9 (.llen (pc o3 17))
abbrev Uk:PE:=plt r7 (.llen (pc o3 16))
abbrev Au:PE:=pix r14 r16
abbrev HX:PE:=pc (.mk [r0]) 4
abbrev IK:PE:=aF r16 (pi 1)
abbrev XG:PE:=.pick (pge r0 (pi 0)) (plt r0 r1) pF
abbrev abH:PE:=.pick (.pick (.pick (peq (pc o5 2) (pi (-1))) r9 pF) WX pF) Cd pF
abbrev H6:PE:=.llen (pc o1 5)
abbrev abu:PE:=.setc o4 0 (.mk [(pc (.setc pV 0 r88) 0),(pc (.setc pV 0 r88) 1)])
abbrev ade:PE:=.setc o4 0 (.mk [(pc (.setc pV 0 r26) 0),(pc (.setc pV 0 r26) 1)])
abbrev abt:PE:=.pick (.pick Vy r8 pF) (.pick Cd pT (peq (pc o5 8) (pi 1))) pF
abbrev Ec:PE:=pn r3 (pi 2)
abbrev acH:PE:=.setc rR 0 (.mk [(.lst [(pi 1),(pi (-1)),(pi (-1))]),(pi (-1))])
abbrev abE:PE:=.pick (pne (pc o3 22) (pi (-1))) (aO (pc o8 6) (pc o3 22)) (pi 0)
abbrev XB:PE:=.ai .rem .i64 (pn r8 r10) (pi 100)
abbrev acI:PE:=.app (.o 77829) (.lst [(.mk [(pc o13 0),(pc o13 1),(pc o13 2)])])
abbrev abx:PE:=.app o5 (.lst [(.mk [(pc R5 0),(pc R5 1),(pc R5 2)])])
abbrev acL:PE:=.app o5 (.lst [(.mk [(pc SN 0),(pc SN 1),(pc SN 2)])])
end Rm
