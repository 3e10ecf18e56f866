/-
  Shared texts of this claim.
-/
import Derived.Test.YtodhjdbleiakeaaGreatDoorLAJ
import Derived.Test.YtodhjdbleiakeaaGreatDoorProg
set_option linter.unusedSimpArgs false
set_option linter.unusedVariables false
namespace Rm
open Go Cx
abbrev str (b:ByteArray):D:=.v (.string b)
def strs (l:List ByteArray):D:=.list (l.map str)
@[simp] theorem auQ (l:List ByteArray):(strs l).l=l.map str:=_root_.id rfl
theorem str_inv {d:D}(h:DTy .str d):∃b,d=str b:=by
 cases h with
 |str b=>exact⟨b,rfl⟩
 |other t d h=>exact h.elim
theorem auP {d:D}(h:DTy (.slice .str) d):∃l:List ByteArray,d=strs l∧l.length≤maxLen:=by
 obtain⟨xs,rfl,hm,hx⟩:=h.slice_inv;obtain⟨l,rfl,hl⟩:=iz (enc:=str) (P:=fun _=>True) fun x hh=>(str_inv (hx x hh)).imp fun b hb=>⟨hb,trivial⟩
 exact⟨l,rfl,by simpa using hm⟩
@[simp] theorem azl (t:Tm):(de t).cells=[.int t.op,.int t.n,.list (t.args.map de)]:=by rw[yY];rfl
@[simp] theorem azm (t:Tm):D.agg [.int t.op,.int t.n,.list (t.args.map de)]=de t:=(yY t).symm
@[simp] theorem azi (t:Tm):(de t).c 0=.int t.op:=by rw[yY];rfl
@[simp] theorem azj (t:Tm):(de t).c 1=.int t.n:=by rw[yY];rfl
@[simp] theorem azk (t:Tm):(de t).c 2=.list (t.args.map de):=by rw[yY];rfl
structure City where
 name:ByteArray
 order:Int
 currency:Int
 rest:List Int
 feasts:List Int
 shut:List Int
 deriving Inhabited
def fg (x:City):D:=.agg [str x.name,.int x.order,.int x.currency,ints x.rest,ints x.feasts,ints x.shut]
@[simp] theorem aym (x:City):(fg x).cells=[str x.name,.int x.order,.int x.currency,ints x.rest,ints x.feasts,ints x.shut]:=_root_.id rfl
@[simp] theorem aCs (x:City):D.agg [str x.name,.int x.order,.int x.currency,ints x.rest,ints x.feasts,ints x.shut]=fg x:=_root_.id rfl
@[simp] theorem azE (x:City):iO 6 (fg x)=fg x:=_root_.id rfl
@[simp] theorem ayg (x:City):(fg x).c 0=str x.name:=_root_.id rfl
@[simp] theorem ayh (x:City):(fg x).c 1=.int x.order:=_root_.id rfl
@[simp] theorem ayi (x:City):(fg x).c 2=.int x.currency:=_root_.id rfl
@[simp] theorem ayj (x:City):(fg x).c 3=ints x.rest:=_root_.id rfl
@[simp] theorem ayk (x:City):(fg x).c 4=ints x.feasts:=_root_.id rfl
@[simp] theorem ayl (x:City):(fg x).c 5=ints x.shut:=_root_.id rfl
def rM (l:List City):D:=.list (l.map fg)
@[simp] theorem az5 (l:List City):(rM l).l=l.map fg:=_root_.id rfl
abbrev RR:Ty:=.agg [.str,.int .i64,.int .i64,.slice (.int .i64),.slice (.int .i64),.slice (.int .i64)]
def City.OK (x:City):Prop:=aV x.order∧aV x.currency∧(x.rest.length≤maxLen∧∀y,y∈x.rest→aV y)∧(x.feasts.length≤maxLen∧∀y,y∈x.feasts→aV y)∧(x.shut.length≤maxLen∧∀y,y∈x.shut→aV y)
theorem ahR {d:D}(h:DTy RR d):∃x:City,d=fg x∧x.OK:=by
 obtain⟨ds,rfl,hs⟩:=h.agg_inv;obtain⟨d0,ds,rfl,h0,hs⟩:=hs.cons_inv;obtain⟨d1,ds,rfl,h1,hs⟩:=hs.cons_inv;obtain⟨d2,ds,rfl,h2,hs⟩:=hs.cons_inv;obtain⟨d3,ds,rfl,h3,hs⟩:=hs.cons_inv;obtain⟨d4,ds,rfl,h4,hs⟩:=hs.cons_inv;obtain⟨d5,ds,rfl,h5,hs⟩:=hs.cons_inv;obtain rfl:=hs.nil_inv;obtain⟨n0,rfl⟩:=str_inv h0;obtain⟨n1,rfl,b1⟩:=h1.i64_inv;obtain⟨n2,rfl,b2⟩:=h2.i64_inv;obtain⟨n3,rfl,b3,c3⟩:=h3.ints_inv;obtain⟨n4,rfl,b4,c4⟩:=h4.ints_inv;obtain⟨n5,rfl,b5,c5⟩:=h5.ints_inv;exact⟨⟨n0,n1,n2,n3,n4,n5⟩,rfl,⟨b1,b2,⟨b3,c3⟩,⟨b4,c4⟩,⟨b5,c5⟩⟩⟩
theorem ahT {d:D}(h:DTy (.slice RR) d):∃l:List City,d=rM l∧l.length≤maxLen∧∀y,y∈l→City.OK y:=by
 obtain⟨xs,rfl,hm,hx⟩:=h.slice_inv;obtain⟨l,rfl,hl⟩:=iz (enc:=fg) (P:=City.OK) fun x hh=>ahR (hx x hh);exact⟨l,rfl,by simpa using hm,hl⟩
structure Firm where
 name:ByteArray
 city:Int
 group:Int
 deriving Inhabited
def oL (x:Firm):D:=.agg [str x.name,.int x.city,.int x.group]
@[simp] theorem ayA (x:Firm):(oL x).cells=[str x.name,.int x.city,.int x.group]:=_root_.id rfl
@[simp] theorem aCv (x:Firm):D.agg [str x.name,.int x.city,.int x.group]=oL x:=_root_.id rfl
@[simp] theorem ayx (x:Firm):(oL x).c 0=str x.name:=_root_.id rfl
@[simp] theorem ayy (x:Firm):(oL x).c 1=.int x.city:=_root_.id rfl
@[simp] theorem ayz (x:Firm):(oL x).c 2=.int x.group:=_root_.id rfl
def firms (l:List Firm):D:=.list (l.map oL)
@[simp] theorem aBj (l:List Firm):(firms l).l=l.map oL:=_root_.id rfl
abbrev RT:Ty:=.agg [.str,.int .i64,.int .i64]
def Firm.OK (x:Firm):Prop:=aV x.city∧aV x.group
theorem ajo {d:D}(h:DTy RT d):∃x:Firm,d=oL x∧x.OK:=by
 obtain⟨ds,rfl,hs⟩:=h.agg_inv;obtain⟨d0,ds,rfl,h0,hs⟩:=hs.cons_inv;obtain⟨d1,ds,rfl,h1,hs⟩:=hs.cons_inv;obtain⟨d2,ds,rfl,h2,hs⟩:=hs.cons_inv;obtain rfl:=hs.nil_inv;obtain⟨n0,rfl⟩:=str_inv h0;obtain⟨n1,rfl,b1⟩:=h1.i64_inv;obtain⟨n2,rfl,b2⟩:=h2.i64_inv;exact⟨⟨n0,n1,n2⟩,rfl,⟨b1,b2⟩⟩
theorem ajp {d:D}(h:DTy (.slice RT) d):∃l:List Firm,d=firms l∧l.length≤maxLen∧∀y,y∈l→Firm.OK y:=by
 obtain⟨xs,rfl,hm,hx⟩:=h.slice_inv;obtain⟨l,rfl,hl⟩:=iz (enc:=oL) (P:=Firm.OK) fun x hh=>ajo (hx x hh);exact⟨l,rfl,by simpa using hm,hl⟩
structure Group where
 grade:Int
 deriving DecidableEq,Inhabited
def rR (x:Group):D:=.agg [.int x.grade]
@[simp] theorem ayC (x:Group):(rR x).cells=[.int x.grade]:=_root_.id rfl
@[simp] theorem aCw (x:Group):D.agg [.int x.grade]=rR x:=_root_.id rfl
@[simp] theorem ayB (x:Group):(rR x).c 0=.int x.grade:=_root_.id rfl
def groups (l:List Group):D:=.list (l.map rR)
@[simp] theorem aBr (l:List Group):(groups l).l=l.map rR:=_root_.id rfl
abbrev RU:Ty:=.agg [.int .i64]
def Group.OK (x:Group):Prop:=aV x.grade
theorem alR {d:D}(h:DTy RU d):∃x:Group,d=rR x∧x.OK:=by
 obtain⟨ds,rfl,hs⟩:=h.agg_inv;obtain⟨d0,ds,rfl,h0,hs⟩:=hs.cons_inv;obtain rfl:=hs.nil_inv;obtain⟨n0,rfl,b0⟩:=h0.i64_inv;exact⟨⟨n0⟩,rfl,b0⟩
theorem alS {d:D}(h:DTy (.slice RU) d):∃l:List Group,d=groups l∧l.length≤maxLen∧∀y,y∈l→Group.OK y:=by
 obtain⟨xs,rfl,hm,hx⟩:=h.slice_inv;obtain⟨l,rfl,hl⟩:=iz (enc:=rR) (P:=Group.OK) fun x hh=>alR (hx x hh);exact⟨l,rfl,by simpa using hm,hl⟩
structure Usance where
 fr:Int
 to:Int
 days:Int
 deriving DecidableEq,Inhabited
def oP (x:Usance):D:=.agg [.int x.fr,.int x.to,.int x.days]
@[simp] theorem azv (x:Usance):(oP x).cells=[.int x.fr,.int x.to,.int x.days]:=_root_.id rfl
@[simp] theorem aCG (x:Usance):D.agg [.int x.fr,.int x.to,.int x.days]=oP x:=_root_.id rfl
@[simp] theorem azs (x:Usance):(oP x).c 0=.int x.fr:=_root_.id rfl
@[simp] theorem azt (x:Usance):(oP x).c 1=.int x.to:=_root_.id rfl
@[simp] theorem azu (x:Usance):(oP x).c 2=.int x.days:=_root_.id rfl
def usances (l:List Usance):D:=.list (l.map oP)
@[simp] theorem aDT (l:List Usance):(usances l).l=l.map oP:=_root_.id rfl
abbrev R0:Ty:=.agg [.int .i64,.int .i64,.int .i64]
def Usance.OK (x:Usance):Prop:=aV x.fr∧aV x.to∧aV x.days
theorem axe {d:D}(h:DTy R0 d):∃x:Usance,d=oP x∧x.OK:=by
 obtain⟨ds,rfl,hs⟩:=h.agg_inv;obtain⟨d0,ds,rfl,h0,hs⟩:=hs.cons_inv;obtain⟨d1,ds,rfl,h1,hs⟩:=hs.cons_inv;obtain⟨d2,ds,rfl,h2,hs⟩:=hs.cons_inv;obtain rfl:=hs.nil_inv;obtain⟨n0,rfl,b0⟩:=h0.i64_inv;obtain⟨n1,rfl,b1⟩:=h1.i64_inv;obtain⟨n2,rfl,b2⟩:=h2.i64_inv;exact⟨⟨n0,n1,n2⟩,rfl,⟨b0,b1,b2⟩⟩
theorem axf {d:D}(h:DTy (.slice R0) d):∃l:List Usance,d=usances l∧l.length≤maxLen∧∀y,y∈l→Usance.OK y:=by
 obtain⟨xs,rfl,hm,hx⟩:=h.slice_inv;obtain⟨l,rfl,hl⟩:=iz (enc:=oP) (P:=Usance.OK) fun x hh=>axe (hx x hh);exact⟨l,rfl,by simpa using hm,hl⟩
structure Rate where
 fr:Int
 to:Int
 num:Int
 den:Int
 since:Int
 deriving DecidableEq,Inhabited
def mB (x:Rate):D:=.agg [.int x.fr,.int x.to,.int x.num,.int x.den,.int x.since]
@[simp] theorem ayR (x:Rate):(mB x).cells=[.int x.fr,.int x.to,.int x.num,.int x.den,.int x.since]:=_root_.id rfl
@[simp] theorem aCz (x:Rate):D.agg [.int x.fr,.int x.to,.int x.num,.int x.den,.int x.since]=mB x:=_root_.id rfl
@[simp] theorem ayM (x:Rate):(mB x).c 0=.int x.fr:=_root_.id rfl
@[simp] theorem ayN (x:Rate):(mB x).c 1=.int x.to:=_root_.id rfl
@[simp] theorem ayO (x:Rate):(mB x).c 2=.int x.num:=_root_.id rfl
@[simp] theorem ayP (x:Rate):(mB x).c 3=.int x.den:=_root_.id rfl
@[simp] theorem ayQ (x:Rate):(mB x).c 4=.int x.since:=_root_.id rfl
def rates (l:List Rate):D:=.list (l.map mB)
@[simp] theorem aDk (l:List Rate):(rates l).l=l.map mB:=_root_.id rfl
abbrev RX:Ty:=.agg [.int .i64,.int .i64,.int .i64,.int .i64,.int .i64]
def Rate.OK (x:Rate):Prop:=aV x.fr∧aV x.to∧aV x.num∧aV x.den∧aV x.since
theorem atM {d:D}(h:DTy RX d):∃x:Rate,d=mB x∧x.OK:=by
 obtain⟨ds,rfl,hs⟩:=h.agg_inv;obtain⟨d0,ds,rfl,h0,hs⟩:=hs.cons_inv;obtain⟨d1,ds,rfl,h1,hs⟩:=hs.cons_inv;obtain⟨d2,ds,rfl,h2,hs⟩:=hs.cons_inv;obtain⟨d3,ds,rfl,h3,hs⟩:=hs.cons_inv;obtain⟨d4,ds,rfl,h4,hs⟩:=hs.cons_inv;obtain rfl:=hs.nil_inv;obtain⟨n0,rfl,b0⟩:=h0.i64_inv;obtain⟨n1,rfl,b1⟩:=h1.i64_inv;obtain⟨n2,rfl,b2⟩:=h2.i64_inv;obtain⟨n3,rfl,b3⟩:=h3.i64_inv;obtain⟨n4,rfl,b4⟩:=h4.i64_inv;exact⟨⟨n0,n1,n2,n3,n4⟩,rfl,⟨b0,b1,b2,b3,b4⟩⟩
theorem atN {d:D}(h:DTy (.slice RX) d):∃l:List Rate,d=rates l∧l.length≤maxLen∧∀y,y∈l→Rate.OK y:=by
 obtain⟨xs,rfl,hm,hx⟩:=h.slice_inv;obtain⟨l,rfl,hl⟩:=iz (enc:=mB) (P:=Rate.OK) fun x hh=>atM (hx x hh);exact⟨l,rfl,by simpa using hm,hl⟩
structure Halt where
 order:Int
 fr:Int
 to:Int
 deriving DecidableEq,Inhabited
def oM (x:Halt):D:=.agg [.int x.order,.int x.fr,.int x.to]
@[simp] theorem ayG (x:Halt):(oM x).cells=[.int x.order,.int x.fr,.int x.to]:=_root_.id rfl
@[simp] theorem aCx (x:Halt):D.agg [.int x.order,.int x.fr,.int x.to]=oM x:=_root_.id rfl
@[simp] theorem ayD (x:Halt):(oM x).c 0=.int x.order:=_root_.id rfl
@[simp] theorem ayE (x:Halt):(oM x).c 1=.int x.fr:=_root_.id rfl
@[simp] theorem ayF (x:Halt):(oM x).c 2=.int x.to:=_root_.id rfl
def halts (l:List Halt):D:=.list (l.map oM)
@[simp] theorem aBz (l:List Halt):(halts l).l=l.map oM:=_root_.id rfl
abbrev RV:Ty:=.agg [.int .i64,.int .i64,.int .i64]
def Halt.OK (x:Halt):Prop:=aV x.order∧aV x.fr∧aV x.to
theorem amp {d:D}(h:DTy RV d):∃x:Halt,d=oM x∧x.OK:=by
 obtain⟨ds,rfl,hs⟩:=h.agg_inv;obtain⟨d0,ds,rfl,h0,hs⟩:=hs.cons_inv;obtain⟨d1,ds,rfl,h1,hs⟩:=hs.cons_inv;obtain⟨d2,ds,rfl,h2,hs⟩:=hs.cons_inv;obtain rfl:=hs.nil_inv;obtain⟨n0,rfl,b0⟩:=h0.i64_inv;obtain⟨n1,rfl,b1⟩:=h1.i64_inv;obtain⟨n2,rfl,b2⟩:=h2.i64_inv;exact⟨⟨n0,n1,n2⟩,rfl,⟨b0,b1,b2⟩⟩
theorem amq {d:D}(h:DTy (.slice RV) d):∃l:List Halt,d=halts l∧l.length≤maxLen∧∀y,y∈l→Halt.OK y:=by
 obtain⟨xs,rfl,hm,hx⟩:=h.slice_inv;obtain⟨l,rfl,hl⟩:=iz (enc:=oM) (P:=Halt.OK) fun x hh=>amp (hx x hh);exact⟨l,rfl,by simpa using hm,hl⟩
structure Choice where
 ask:Int
 by_:Int
 whole:Bool
 deriving DecidableEq,Inhabited
def qk (x:Choice):D:=.agg [.int x.ask,.int x.by_,.bool x.whole]
@[simp] theorem ayf (x:Choice):(qk x).cells=[.int x.ask,.int x.by_,.bool x.whole]:=_root_.id rfl
@[simp] theorem aCr (x:Choice):D.agg [.int x.ask,.int x.by_,.bool x.whole]=qk x:=_root_.id rfl
@[simp] theorem ayd (x:Choice):(qk x).c 0=.int x.ask:=_root_.id rfl
@[simp] theorem aye (x:Choice):(qk x).c 1=.int x.by_:=_root_.id rfl
def choices (l:List Choice):D:=.list (l.map qk)
@[simp] theorem az4 (l:List Choice):(choices l).l=l.map qk:=_root_.id rfl
abbrev RQ:Ty:=.agg [.int .i64,.int .i64,.bool]
def Choice.OK (x:Choice):Prop:=aV x.ask∧aV x.by_
theorem ahO {d:D}(h:DTy RQ d):∃x:Choice,d=qk x∧x.OK:=by
 obtain⟨ds,rfl,hs⟩:=h.agg_inv;obtain⟨d0,ds,rfl,h0,hs⟩:=hs.cons_inv;obtain⟨d1,ds,rfl,h1,hs⟩:=hs.cons_inv;obtain⟨d2,ds,rfl,h2,hs⟩:=hs.cons_inv;obtain rfl:=hs.nil_inv;obtain⟨n0,rfl,b0⟩:=h0.i64_inv;obtain⟨n1,rfl,b1⟩:=h1.i64_inv;obtain⟨n2,rfl⟩:=h2.bool_inv;exact⟨⟨n0,n1,n2⟩,rfl,⟨b0,b1⟩⟩
theorem ahP {d:D}(h:DTy (.slice RQ) d):∃l:List Choice,d=choices l∧l.length≤maxLen∧∀y,y∈l→Choice.OK y:=by
 obtain⟨xs,rfl,hm,hx⟩:=h.slice_inv;obtain⟨l,rfl,hl⟩:=iz (enc:=qk) (P:=Choice.OK) fun x hh=>ahO (hx x hh);exact⟨l,rfl,by simpa using hm,hl⟩
structure Rule where
 ask:Int
 term:Tm
 deriving Inhabited
def oN (x:Rule):D:=.agg [.int x.ask,.int x.term.op,.int x.term.n,.list (x.term.args.map de)]
@[simp] theorem ay2 (x:Rule):(oN x).cells=[.int x.ask,.int x.term.op,.int x.term.n,.list (x.term.args.map de)]:=_root_.id rfl
@[simp] theorem aCB (x:Rule):D.agg [.int x.ask,.int x.term.op,.int x.term.n,.list (x.term.args.map de)]=oN x:=_root_.id rfl
@[simp] theorem ay1 (x:Rule):(oN x).c 0=.int x.ask:=_root_.id rfl
def rules (l:List Rule):D:=.list (l.map oN)
@[simp] theorem aDp (l:List Rule):(rules l).l=l.map oN:=_root_.id rfl
abbrev RY:Ty:=.agg [.int .i64,.int .i64,.int .i64,.slice .trm]
def Rule.OK (x:Rule):Prop:=aV x.ask∧Tm.OK x.term
theorem aur {d:D}(h:DTy RY d):∃x:Rule,d=oN x∧x.OK:=by
 obtain⟨ds,rfl,hs⟩:=h.agg_inv;obtain⟨d0,ds,rfl,h0,hs⟩:=hs.cons_inv;obtain⟨d1,ds,rfl,h1,hs⟩:=hs.cons_inv;obtain⟨d2,ds,rfl,h2,hs⟩:=hs.cons_inv;obtain⟨d3,ds,rfl,h3,hs⟩:=hs.cons_inv;obtain rfl:=hs.nil_inv;obtain⟨n0,rfl,b0⟩:=h0.i64_inv;obtain⟨n1,rfl,b1⟩:=h1.i64_inv;obtain⟨n2,rfl,b2⟩:=h2.i64_inv;obtain⟨n3,rfl,b3,c3⟩:=h3.trms_inv;exact⟨⟨n0,.mk n1 n2 n3⟩,rfl,⟨b0,.mk _ _ _ b1 b2 b3 c3⟩⟩
theorem aus {d:D}(h:DTy (.slice RY) d):∃l:List Rule,d=rules l∧l.length≤maxLen∧∀y,y∈l→Rule.OK y:=by
 obtain⟨xs,rfl,hm,hx⟩:=h.slice_inv;obtain⟨l,rfl,hl⟩:=iz (enc:=oN) (P:=Rule.OK) fun x hh=>aur (hx x hh);exact⟨l,rfl,by simpa using hm,hl⟩
structure Order where
 name:ByteArray
 accepts:Bool
 choices:List Choice
 rules:List Rule
 deriving Inhabited
def gr (x:Order):D:=.agg [str x.name,.bool x.accepts,choices x.choices,rules x.rules]
@[simp] theorem ayL (x:Order):(gr x).cells=[str x.name,.bool x.accepts,choices x.choices,rules x.rules]:=_root_.id rfl
@[simp] theorem aCy (x:Order):D.agg [str x.name,.bool x.accepts,choices x.choices,rules x.rules]=gr x:=_root_.id rfl
@[simp] theorem azG (x:Order):iO 4 (gr x)=gr x:=_root_.id rfl
@[simp] theorem ayH (x:Order):(gr x).c 0=str x.name:=_root_.id rfl
@[simp] theorem ayI (x:Order):(gr x).c 1=.bool x.accepts:=_root_.id rfl
@[simp] theorem ayJ (x:Order):(gr x).c 2=choices x.choices:=_root_.id rfl
@[simp] theorem ayK (x:Order):(gr x).c 3=rules x.rules:=_root_.id rfl
def orders (l:List Order):D:=.list (l.map gr)
@[simp] theorem aCU (l:List Order):(orders l).l=l.map gr:=_root_.id rfl
abbrev RW:Ty:=.agg [.str,.bool,.slice RQ,.slice RY]
def Order.OK (x:Order):Prop:=(x.choices.length≤maxLen∧∀y,y∈x.choices→Choice.OK y)∧(x.rules.length≤maxLen∧∀y,y∈x.rules→Rule.OK y)
theorem as5 {d:D}(h:DTy RW d):∃x:Order,d=gr x∧x.OK:=by
 obtain⟨ds,rfl,hs⟩:=h.agg_inv;obtain⟨d0,ds,rfl,h0,hs⟩:=hs.cons_inv;obtain⟨d1,ds,rfl,h1,hs⟩:=hs.cons_inv;obtain⟨d2,ds,rfl,h2,hs⟩:=hs.cons_inv;obtain⟨d3,ds,rfl,h3,hs⟩:=hs.cons_inv;obtain rfl:=hs.nil_inv;obtain⟨n0,rfl⟩:=str_inv h0;obtain⟨n1,rfl⟩:=h1.bool_inv;obtain⟨n2,rfl,b2,c2⟩:=ahP h2;obtain⟨n3,rfl,b3,c3⟩:=aus h3;exact⟨⟨n0,n1,n2,n3⟩,rfl,⟨⟨b2,c2⟩,⟨b3,c3⟩⟩⟩
theorem as6 {d:D}(h:DTy (.slice RW) d):∃l:List Order,d=orders l∧l.length≤maxLen∧∀y,y∈l→Order.OK y:=by
 obtain⟨xs,rfl,hm,hx⟩:=h.slice_inv;obtain⟨l,rfl,hl⟩:=iz (enc:=gr) (P:=Order.OK) fun x hh=>as5 (hx x hh);exact⟨l,rfl,by simpa using hm,hl⟩
structure Realm where
 currencies:List ByteArray
 cities:List City
 groups:List Group
 firms:List Firm
 orders:List Order
 usances:List Usance
 rates:List Rate
 halts:List Halt
 deriving Inhabited
def bm (x:Realm):D:=.agg [strs x.currencies,rM x.cities,groups x.groups,firms x.firms,orders x.orders,usances x.usances,rates x.rates,halts x.halts]
@[simp] theorem ay0 (x:Realm):(bm x).cells=[strs x.currencies,rM x.cities,groups x.groups,firms x.firms,orders x.orders,usances x.usances,rates x.rates,halts x.halts]:=_root_.id rfl
@[simp] theorem aCA (x:Realm):D.agg [strs x.currencies,rM x.cities,groups x.groups,firms x.firms,orders x.orders,usances x.usances,rates x.rates,halts x.halts]=bm x:=_root_.id rfl
@[simp] theorem azH (x:Realm):iO 8 (bm x)=bm x:=_root_.id rfl
@[simp] theorem aCY (x:Realm)(a0 a1 a2 a3 a4 a5 a6 a7:D):D.agg (dF [a0,a1,a2,a3,a4,a5,a6,a7] 0 [strs x.currencies,rM x.cities,groups x.groups,firms x.firms,orders x.orders,usances x.usances,rates x.rates,halts x.halts])=bm x:=_root_.id rfl
@[simp] theorem ayS (x:Realm):(bm x).c 0=strs x.currencies:=_root_.id rfl
@[simp] theorem ayT (x:Realm):(bm x).c 1=rM x.cities:=_root_.id rfl
@[simp] theorem ayU (x:Realm):(bm x).c 2=groups x.groups:=_root_.id rfl
@[simp] theorem ayV (x:Realm):(bm x).c 3=firms x.firms:=_root_.id rfl
@[simp] theorem ayW (x:Realm):(bm x).c 4=orders x.orders:=_root_.id rfl
@[simp] theorem ayX (x:Realm):(bm x).c 5=usances x.usances:=_root_.id rfl
@[simp] theorem ayY (x:Realm):(bm x).c 6=rates x.rates:=_root_.id rfl
@[simp] theorem ayZ (x:Realm):(bm x).c 7=halts x.halts:=_root_.id rfl
abbrev aw5:Ty:=.agg [.slice .str,.slice RR,.slice RU,.slice RT,.slice RW,.slice R0,.slice RX,.slice RV]
def Realm.OK (x:Realm):Prop:=x.currencies.length≤maxLen∧(x.cities.length≤maxLen∧∀y,y∈x.cities→City.OK y)∧(x.groups.length≤maxLen∧∀y,y∈x.groups→Group.OK y)∧(x.firms.length≤maxLen∧∀y,y∈x.firms→Firm.OK y)∧(x.orders.length≤maxLen∧∀y,y∈x.orders→Order.OK y)∧(x.usances.length≤maxLen∧∀y,y∈x.usances→Usance.OK y)∧(x.rates.length≤maxLen∧∀y,y∈x.rates→Rate.OK y)∧(x.halts.length≤maxLen∧∀y,y∈x.halts→Halt.OK y)
theorem at3 {d:D}(h:DTy aw5 d):∃x:Realm,d=bm x∧x.OK:=by
 obtain⟨ds,rfl,hs⟩:=h.agg_inv;obtain⟨d0,ds,rfl,h0,hs⟩:=hs.cons_inv;obtain⟨d1,ds,rfl,h1,hs⟩:=hs.cons_inv;obtain⟨d2,ds,rfl,h2,hs⟩:=hs.cons_inv;obtain⟨d3,ds,rfl,h3,hs⟩:=hs.cons_inv;obtain⟨d4,ds,rfl,h4,hs⟩:=hs.cons_inv;obtain⟨d5,ds,rfl,h5,hs⟩:=hs.cons_inv;obtain⟨d6,ds,rfl,h6,hs⟩:=hs.cons_inv;obtain⟨d7,ds,rfl,h7,hs⟩:=hs.cons_inv;obtain rfl:=hs.nil_inv;obtain⟨n0,rfl,b0⟩:=auP h0;obtain⟨n1,rfl,b1,c1⟩:=ahT h1;obtain⟨n2,rfl,b2,c2⟩:=alS h2;obtain⟨n3,rfl,b3,c3⟩:=ajp h3;obtain⟨n4,rfl,b4,c4⟩:=as6 h4;obtain⟨n5,rfl,b5,c5⟩:=axf h5;obtain⟨n6,rfl,b6,c6⟩:=atN h6;obtain⟨n7,rfl,b7,c7⟩:=amq h7;exact⟨⟨n0,n1,n2,n3,n4,n5,n6,n7⟩,rfl,⟨b0,⟨b1,c1⟩,⟨b2,c2⟩,⟨b3,c3⟩,⟨b4,c4⟩,⟨b5,c5⟩,⟨b6,c6⟩,⟨b7,c7⟩⟩⟩
structure Tenor where
 kind:Int
 n:Int
 unit:Int
 deriving DecidableEq,Inhabited
def oO (x:Tenor):D:=.agg [.int x.kind,.int x.n,.int x.unit]
@[simp] theorem azq (x:Tenor):(oO x).cells=[.int x.kind,.int x.n,.int x.unit]:=_root_.id rfl
@[simp] theorem aCF (x:Tenor):D.agg [.int x.kind,.int x.n,.int x.unit]=oO x:=_root_.id rfl
@[simp] theorem azn (x:Tenor):(oO x).c 0=.int x.kind:=_root_.id rfl
@[simp] theorem azo (x:Tenor):(oO x).c 1=.int x.n:=_root_.id rfl
@[simp] theorem azp (x:Tenor):(oO x).c 2=.int x.unit:=_root_.id rfl
def Tenor.OK (x:Tenor):Prop:=aV x.kind∧aV x.n∧aV x.unit
structure Bill where
 drawer:Int
 drawee:Int
 payee:Int
 sum:Int
 currency:Int
 tenor:Tenor
 day:Int
 city:Int
 pay:Int
 need:Int
 rate:Int
 flags:Int
 parts:Int
 deriving DecidableEq,Inhabited
def eN (x:Bill):D:=.agg [.int x.drawer,.int x.drawee,.int x.payee,.int x.sum,.int x.currency,.int x.tenor.kind,.int x.tenor.n,.int x.tenor.unit,.int x.day,.int x.city,.int x.pay,.int x.need,.int x.rate,.int x.flags,.int x.parts]
@[simp] theorem ax0 (x:Bill):(eN x).cells=[.int x.drawer,.int x.drawee,.int x.payee,.int x.sum,.int x.currency,.int x.tenor.kind,.int x.tenor.n,.int x.tenor.unit,.int x.day,.int x.city,.int x.pay,.int x.need,.int x.rate,.int x.flags,.int x.parts]:=_root_.id rfl
@[simp] theorem aCo (x:Bill):D.agg [.int x.drawer,.int x.drawee,.int x.payee,.int x.sum,.int x.currency,.int x.tenor.kind,.int x.tenor.n,.int x.tenor.unit,.int x.day,.int x.city,.int x.pay,.int x.need,.int x.rate,.int x.flags,.int x.parts]=eN x:=_root_.id rfl
@[simp] theorem azD (x:Bill):iO 15 (eN x)=eN x:=_root_.id rfl
@[simp] theorem aCV (x:Bill)(a0 a1 a2 a3 a4 a5 a6 a7 a8 a9 mg mh mi mj ml:D):D.agg (dF [a0,a1,a2,a3,a4,a5,a6,a7,a8,a9,mg,mh,mi,mj,ml] 0 [.int x.drawer,.int x.drawee,.int x.payee,.int x.sum,.int x.currency,.int x.tenor.kind,.int x.tenor.n,.int x.tenor.unit,.int x.day,.int x.city,.int x.pay,.int x.need,.int x.rate,.int x.flags,.int x.parts])=eN x:=_root_.id rfl
@[simp] theorem axT (x:Bill):(eN x).c 2=.int x.payee:=_root_.id rfl
@[simp] theorem axU (x:Bill):(eN x).c 3=.int x.sum:=_root_.id rfl
@[simp] theorem axV (x:Bill):(eN x).c 5=.int x.tenor.kind:=_root_.id rfl
@[simp] theorem axW (x:Bill):(eN x).c 6=.int x.tenor.n:=_root_.id rfl
@[simp] theorem axX (x:Bill):(eN x).c 7=.int x.tenor.unit:=_root_.id rfl
@[simp] theorem axY (x:Bill):(eN x).c 8=.int x.day:=_root_.id rfl
@[simp] theorem axZ (x:Bill):(eN x).c 9=.int x.city:=_root_.id rfl
@[simp] theorem axP (x:Bill):(eN x).c 10=.int x.pay:=_root_.id rfl
@[simp] theorem axQ (x:Bill):(eN x).c 12=.int x.rate:=_root_.id rfl
@[simp] theorem axR (x:Bill):(eN x).c 13=.int x.flags:=_root_.id rfl
@[simp] theorem axS (x:Bill):(eN x).c 14=.int x.parts:=_root_.id rfl
def Bill.OK (x:Bill):Prop:=aV x.drawer∧aV x.drawee∧aV x.payee∧aV x.sum∧aV x.currency∧Tenor.OK x.tenor∧aV x.day∧aV x.city∧aV x.pay∧aV x.need∧aV x.rate∧aV x.flags∧aV x.parts
structure Sign where
 kind:Int
 part:Int
 who:Int
 for_:Int
 to:Int
 sum:Int
 day:Int
 city:Int
 flags:Int
 deriving DecidableEq,Inhabited
def kI (x:Sign):D:=.agg [.int x.kind,.int x.part,.int x.who,.int x.for_,.int x.to,.int x.sum,.int x.day,.int x.city,.int x.flags]
@[simp] theorem azh (x:Sign):(kI x).cells=[.int x.kind,.int x.part,.int x.who,.int x.for_,.int x.to,.int x.sum,.int x.day,.int x.city,.int x.flags]:=_root_.id rfl
@[simp] theorem aCE (x:Sign):D.agg [.int x.kind,.int x.part,.int x.who,.int x.for_,.int x.to,.int x.sum,.int x.day,.int x.city,.int x.flags]=kI x:=_root_.id rfl
@[simp] theorem azJ (x:Sign):iO 9 (kI x)=kI x:=_root_.id rfl
@[simp] theorem azc (x:Sign):(kI x).c 0=.int x.kind:=_root_.id rfl
@[simp] theorem azd (x:Sign):(kI x).c 2=.int x.who:=_root_.id rfl
@[simp] theorem aze (x:Sign):(kI x).c 6=.int x.day:=_root_.id rfl
@[simp] theorem azf (x:Sign):(kI x).c 7=.int x.city:=_root_.id rfl
@[simp] theorem azg (x:Sign):(kI x).c 8=.int x.flags:=_root_.id rfl
def signs (l:List Sign):D:=.list (l.map kI)
@[simp] theorem aDA (l:List Sign):(signs l).l=l.map kI:=_root_.id rfl
@[simp] theorem aDz (l:List Sign):(signs l).cells=[signs l]:=_root_.id rfl
abbrev RZ:Ty:=.agg [.int .i64,.int .i64,.int .i64,.int .i64,.int .i64,.int .i64,.int .i64,.int .i64,.int .i64]
def Sign.OK (x:Sign):Prop:=aV x.kind∧aV x.part∧aV x.who∧aV x.for_∧aV x.to∧aV x.sum∧aV x.day∧aV x.city∧aV x.flags
theorem auL {d:D}(h:DTy RZ d):∃x:Sign,d=kI x∧x.OK:=by
 obtain⟨ds,rfl,hs⟩:=h.agg_inv;obtain⟨d0,ds,rfl,h0,hs⟩:=hs.cons_inv;obtain⟨d1,ds,rfl,h1,hs⟩:=hs.cons_inv;obtain⟨d2,ds,rfl,h2,hs⟩:=hs.cons_inv;obtain⟨d3,ds,rfl,h3,hs⟩:=hs.cons_inv;obtain⟨d4,ds,rfl,h4,hs⟩:=hs.cons_inv;obtain⟨d5,ds,rfl,h5,hs⟩:=hs.cons_inv;obtain⟨d6,ds,rfl,h6,hs⟩:=hs.cons_inv;obtain⟨d7,ds,rfl,h7,hs⟩:=hs.cons_inv;obtain⟨d8,ds,rfl,h8,hs⟩:=hs.cons_inv;obtain rfl:=hs.nil_inv;obtain⟨n0,rfl,b0⟩:=h0.i64_inv;obtain⟨n1,rfl,b1⟩:=h1.i64_inv;obtain⟨n2,rfl,b2⟩:=h2.i64_inv;obtain⟨n3,rfl,b3⟩:=h3.i64_inv;obtain⟨n4,rfl,b4⟩:=h4.i64_inv;obtain⟨n5,rfl,b5⟩:=h5.i64_inv;obtain⟨n6,rfl,b6⟩:=h6.i64_inv;obtain⟨n7,rfl,b7⟩:=h7.i64_inv;obtain⟨n8,rfl,b8⟩:=h8.i64_inv;exact⟨⟨n0,n1,n2,n3,n4,n5,n6,n7,n8⟩,rfl,⟨b0,b1,b2,b3,b4,b5,b6,b7,b8⟩⟩
theorem auM {d:D}(h:DTy (.slice RZ) d):∃l:List Sign,d=signs l∧l.length≤maxLen∧∀y,y∈l→Sign.OK y:=by
 obtain⟨xs,rfl,hm,hx⟩:=h.slice_inv;obtain⟨l,rfl,hl⟩:=iz (enc:=kI) (P:=Sign.OK) fun x hh=>auL (hx x hh);exact⟨l,rfl,by simpa using hm,hl⟩
structure Alter where
 at_:Int
 sum:Int
 deriving DecidableEq,Inhabited
def mA (x:Alter):D:=.agg [.int x.at_,.int x.sum]
@[simp] theorem axO (x:Alter):(mA x).cells=[.int x.at_,.int x.sum]:=_root_.id rfl
@[simp] theorem aCn (x:Alter):D.agg [.int x.at_,.int x.sum]=mA x:=_root_.id rfl
@[simp] theorem axM (x:Alter):(mA x).c 0=.int x.at_:=_root_.id rfl
@[simp] theorem axN (x:Alter):(mA x).c 1=.int x.sum:=_root_.id rfl
def alters (l:List Alter):D:=.list (l.map mA)
@[simp] theorem azM (l:List Alter):(alters l).l=l.map mA:=_root_.id rfl
@[simp] theorem azL (l:List Alter):(alters l).cells=[alters l]:=_root_.id rfl
abbrev RP:Ty:=.agg [.int .i64,.int .i64]
def Alter.OK (x:Alter):Prop:=aV x.at_∧aV x.sum
theorem adz {d:D}(h:DTy RP d):∃x:Alter,d=mA x∧x.OK:=by
 obtain⟨ds,rfl,hs⟩:=h.agg_inv;obtain⟨d0,ds,rfl,h0,hs⟩:=hs.cons_inv;obtain⟨d1,ds,rfl,h1,hs⟩:=hs.cons_inv;obtain rfl:=hs.nil_inv;obtain⟨n0,rfl,b0⟩:=h0.i64_inv;obtain⟨n1,rfl,b1⟩:=h1.i64_inv;exact⟨⟨n0,n1⟩,rfl,⟨b0,b1⟩⟩
theorem adA {d:D}(h:DTy (.slice RP) d):∃l:List Alter,d=alters l∧l.length≤maxLen∧∀y,y∈l→Alter.OK y:=by
 obtain⟨xs,rfl,hm,hx⟩:=h.slice_inv;obtain⟨l,rfl,hl⟩:=iz (enc:=mA) (P:=Alter.OK) fun x hh=>adz (hx x hh);exact⟨l,rfl,by simpa using hm,hl⟩
structure Act where
 kind:Int
 who:Int
 to:Int
 part:Int
 at_:Int
 sum:Int
 day:Int
 city:Int
 form:Int
 deriving DecidableEq,Inhabited
def nw (x:Act):D:=.agg [.int x.kind,.int x.who,.int x.to,.int x.part,.int x.at_,.int x.sum,.int x.day,.int x.city,.int x.form]
@[simp] theorem axL (x:Act):(nw x).cells=[.int x.kind,.int x.who,.int x.to,.int x.part,.int x.at_,.int x.sum,.int x.day,.int x.city,.int x.form]:=_root_.id rfl
@[simp] theorem aCm (x:Act):D.agg [.int x.kind,.int x.who,.int x.to,.int x.part,.int x.at_,.int x.sum,.int x.day,.int x.city,.int x.form]=nw x:=_root_.id rfl
@[simp] theorem azC (x:Act):iO 9 (nw x)=nw x:=_root_.id rfl
@[simp] theorem axJ (x:Act):(nw x).c 0=.int x.kind:=_root_.id rfl
@[simp] theorem axK (x:Act):(nw x).c 6=.int x.day:=_root_.id rfl
def acts (l:List Act):D:=.list (l.map nw)
@[simp] theorem azx (l:List Act):(acts l).l=l.map nw:=_root_.id rfl
@[simp] theorem azw (l:List Act):(acts l).cells=[acts l]:=_root_.id rfl
abbrev RO:Ty:=.agg [.int .i64,.int .i64,.int .i64,.int .i64,.int .i64,.int .i64,.int .i64,.int .i64,.int .i64]
def Act.OK (x:Act):Prop:=aV x.kind∧aV x.who∧aV x.to∧aV x.part∧aV x.at_∧aV x.sum∧aV x.day∧aV x.city∧aV x.form
theorem adt {d:D}(h:DTy RO d):∃x:Act,d=nw x∧x.OK:=by
 obtain⟨ds,rfl,hs⟩:=h.agg_inv;obtain⟨d0,ds,rfl,h0,hs⟩:=hs.cons_inv;obtain⟨d1,ds,rfl,h1,hs⟩:=hs.cons_inv;obtain⟨d2,ds,rfl,h2,hs⟩:=hs.cons_inv;obtain⟨d3,ds,rfl,h3,hs⟩:=hs.cons_inv;obtain⟨d4,ds,rfl,h4,hs⟩:=hs.cons_inv;obtain⟨d5,ds,rfl,h5,hs⟩:=hs.cons_inv;obtain⟨d6,ds,rfl,h6,hs⟩:=hs.cons_inv;obtain⟨d7,ds,rfl,h7,hs⟩:=hs.cons_inv;obtain⟨d8,ds,rfl,h8,hs⟩:=hs.cons_inv;obtain rfl:=hs.nil_inv;obtain⟨n0,rfl,b0⟩:=h0.i64_inv;obtain⟨n1,rfl,b1⟩:=h1.i64_inv;obtain⟨n2,rfl,b2⟩:=h2.i64_inv;obtain⟨n3,rfl,b3⟩:=h3.i64_inv;obtain⟨n4,rfl,b4⟩:=h4.i64_inv;obtain⟨n5,rfl,b5⟩:=h5.i64_inv;obtain⟨n6,rfl,b6⟩:=h6.i64_inv;obtain⟨n7,rfl,b7⟩:=h7.i64_inv;obtain⟨n8,rfl,b8⟩:=h8.i64_inv;exact⟨⟨n0,n1,n2,n3,n4,n5,n6,n7,n8⟩,rfl,⟨b0,b1,b2,b3,b4,b5,b6,b7,b8⟩⟩
theorem adu {d:D}(h:DTy (.slice RO) d):∃l:List Act,d=acts l∧l.length≤maxLen∧∀y,y∈l→Act.OK y:=by
 obtain⟨xs,rfl,hm,hx⟩:=h.slice_inv;obtain⟨l,rfl,hl⟩:=iz (enc:=nw) (P:=Act.OK) fun x hh=>adt (hx x hh);exact⟨l,rfl,by simpa using hm,hl⟩
structure Fact where
 kind:Int
 at_:Int
 n:Int
 deriving DecidableEq,Inhabited
def oK (x:Fact):D:=.agg [.int x.kind,.int x.at_,.int x.n]
@[simp] theorem ayq (x:Fact):(oK x).cells=[.int x.kind,.int x.at_,.int x.n]:=_root_.id rfl
@[simp] theorem aCt (x:Fact):D.agg [.int x.kind,.int x.at_,.int x.n]=oK x:=_root_.id rfl
@[simp] theorem ayn (x:Fact):(oK x).c 0=.int x.kind:=_root_.id rfl
@[simp] theorem ayo (x:Fact):(oK x).c 1=.int x.at_:=_root_.id rfl
@[simp] theorem ayp (x:Fact):(oK x).c 2=.int x.n:=_root_.id rfl
def facts (l:List Fact):D:=.list (l.map oK)
@[simp] theorem aBh (l:List Fact):(facts l).l=l.map oK:=_root_.id rfl
@[simp] theorem aBg (l:List Fact):(facts l).cells=[facts l]:=_root_.id rfl
abbrev RS:Ty:=.agg [.int .i64,.int .i64,.int .i64]
def Fact.OK (x:Fact):Prop:=aV x.kind∧aV x.at_∧aV x.n
theorem aji {d:D}(h:DTy RS d):∃x:Fact,d=oK x∧x.OK:=by
 obtain⟨ds,rfl,hs⟩:=h.agg_inv;obtain⟨d0,ds,rfl,h0,hs⟩:=hs.cons_inv;obtain⟨d1,ds,rfl,h1,hs⟩:=hs.cons_inv;obtain⟨d2,ds,rfl,h2,hs⟩:=hs.cons_inv;obtain rfl:=hs.nil_inv;obtain⟨n0,rfl,b0⟩:=h0.i64_inv;obtain⟨n1,rfl,b1⟩:=h1.i64_inv;obtain⟨n2,rfl,b2⟩:=h2.i64_inv;exact⟨⟨n0,n1,n2⟩,rfl,⟨b0,b1,b2⟩⟩
theorem ajj {d:D}(h:DTy (.slice RS) d):∃l:List Fact,d=facts l∧l.length≤maxLen∧∀y,y∈l→Fact.OK y:=by
 obtain⟨xs,rfl,hm,hx⟩:=h.slice_inv;obtain⟨l,rfl,hl⟩:=iz (enc:=oK) (P:=Fact.OK) fun x hh=>aji (hx x hh);exact⟨l,rfl,by simpa using hm,hl⟩
structure File where
 bill:Bill
 signs:List Sign
 alters:List Alter
 acts:List Act
 facts:List Fact
 deriving Inhabited
def fh (x:File):D:=.agg [.int x.bill.drawer,.int x.bill.drawee,.int x.bill.payee,.int x.bill.sum,.int x.bill.currency,.int x.bill.tenor.kind,.int x.bill.tenor.n,.int x.bill.tenor.unit,.int x.bill.day,.int x.bill.city,.int x.bill.pay,.int x.bill.need,.int x.bill.rate,.int x.bill.flags,.int x.bill.parts,signs x.signs,alters x.alters,acts x.acts,facts x.facts]
@[simp] theorem ayw (x:File):(fh x).cells=[.int x.bill.drawer,.int x.bill.drawee,.int x.bill.payee,.int x.bill.sum,.int x.bill.currency,.int x.bill.tenor.kind,.int x.bill.tenor.n,.int x.bill.tenor.unit,.int x.bill.day,.int x.bill.city,.int x.bill.pay,.int x.bill.need,.int x.bill.rate,.int x.bill.flags,.int x.bill.parts,signs x.signs,alters x.alters,acts x.acts,facts x.facts]:=_root_.id rfl
@[simp] theorem aCu (x:File):D.agg [.int x.bill.drawer,.int x.bill.drawee,.int x.bill.payee,.int x.bill.sum,.int x.bill.currency,.int x.bill.tenor.kind,.int x.bill.tenor.n,.int x.bill.tenor.unit,.int x.bill.day,.int x.bill.city,.int x.bill.pay,.int x.bill.need,.int x.bill.rate,.int x.bill.flags,.int x.bill.parts,signs x.signs,alters x.alters,acts x.acts,facts x.facts]=fh x:=_root_.id rfl
@[simp] theorem azF (x:File):iO 19 (fh x)=fh x:=_root_.id rfl
@[simp] theorem aCW (x:File)(a0 a1 a2 a3 a4 a5 a6 a7 a8 a9 mg mh mi mj ml oz oA oB oC:D):D.agg (dF [a0,a1,a2,a3,a4,a5,a6,a7,a8,a9,mg,mh,mi,mj,ml,oz,oA,oB,oC] 0 [.int x.bill.drawer,.int x.bill.drawee,.int x.bill.payee,.int x.bill.sum,.int x.bill.currency,.int x.bill.tenor.kind,.int x.bill.tenor.n,.int x.bill.tenor.unit,.int x.bill.day,.int x.bill.city,.int x.bill.pay,.int x.bill.need,.int x.bill.rate,.int x.bill.flags,.int x.bill.parts,signs x.signs,alters x.alters,acts x.acts,facts x.facts])=fh x:=_root_.id rfl
@[simp] theorem ayv (x:File):(fh x).c 5=.int x.bill.tenor.kind:=_root_.id rfl
@[simp] theorem ayr (x:File):(fh x).c 15=signs x.signs:=_root_.id rfl
@[simp] theorem ays (x:File):(fh x).c 16=alters x.alters:=_root_.id rfl
@[simp] theorem ayt (x:File):(fh x).c 17=acts x.acts:=_root_.id rfl
@[simp] theorem ayu (x:File):(fh x).c 18=facts x.facts:=_root_.id rfl
def File.OK (x:File):Prop:=Bill.OK x.bill∧(x.signs.length≤maxLen∧∀y,y∈x.signs→Sign.OK y)∧(x.alters.length≤maxLen∧∀y,y∈x.alters→Alter.OK y)∧(x.acts.length≤maxLen∧∀y,y∈x.acts→Act.OK y)∧(x.facts.length≤maxLen∧∀y,y∈x.facts→Fact.OK y)
structure Case where
 file:File
 sign:Int
 holder:Int
 defence:Int
 due:Int
 day:Int
 deriving Inhabited
def dp (x:Case):D:=.agg [.int x.file.bill.drawer,.int x.file.bill.drawee,.int x.file.bill.payee,.int x.file.bill.sum,.int x.file.bill.currency,.int x.file.bill.tenor.kind,.int x.file.bill.tenor.n,.int x.file.bill.tenor.unit,.int x.file.bill.day,.int x.file.bill.city,.int x.file.bill.pay,.int x.file.bill.need,.int x.file.bill.rate,.int x.file.bill.flags,.int x.file.bill.parts,signs x.file.signs,alters x.file.alters,acts x.file.acts,facts x.file.facts,.int x.sign,.int x.holder,.int x.defence,.int x.due,.int x.day]
@[simp] theorem ax9 (x:Case):(dp x).cells=[.int x.file.bill.drawer,.int x.file.bill.drawee,.int x.file.bill.payee,.int x.file.bill.sum,.int x.file.bill.currency,.int x.file.bill.tenor.kind,.int x.file.bill.tenor.n,.int x.file.bill.tenor.unit,.int x.file.bill.day,.int x.file.bill.city,.int x.file.bill.pay,.int x.file.bill.need,.int x.file.bill.rate,.int x.file.bill.flags,.int x.file.bill.parts,signs x.file.signs,alters x.file.alters,acts x.file.acts,facts x.file.facts,.int x.sign,.int x.holder,.int x.defence,.int x.due,.int x.day]:=_root_.id rfl
@[simp] theorem aCp (x:Case):D.agg [.int x.file.bill.drawer,.int x.file.bill.drawee,.int x.file.bill.payee,.int x.file.bill.sum,.int x.file.bill.currency,.int x.file.bill.tenor.kind,.int x.file.bill.tenor.n,.int x.file.bill.tenor.unit,.int x.file.bill.day,.int x.file.bill.city,.int x.file.bill.pay,.int x.file.bill.need,.int x.file.bill.rate,.int x.file.bill.flags,.int x.file.bill.parts,signs x.file.signs,alters x.file.alters,acts x.file.acts,facts x.file.facts,.int x.sign,.int x.holder,.int x.defence,.int x.due,.int x.day]=dp x:=_root_.id rfl
@[simp] theorem ady (x:Case):iO 24 (dp x)=dp x:=_root_.id rfl
@[simp] theorem as7 (x:Case)(a0 a1 a2 a3 a4 a5 a6 a7 a8 a9 mg mh mi mj ml oz oA oB oC I3 I4 I5 I6 I7:D):D.agg (dF [a0,a1,a2,a3,a4,a5,a6,a7,a8,a9,mg,mh,mi,mj,ml,oz,oA,oB,oC,I3,I4,I5,I6,I7] 0 [.int x.file.bill.drawer,.int x.file.bill.drawee,.int x.file.bill.payee,.int x.file.bill.sum,.int x.file.bill.currency,.int x.file.bill.tenor.kind,.int x.file.bill.tenor.n,.int x.file.bill.tenor.unit,.int x.file.bill.day,.int x.file.bill.city,.int x.file.bill.pay,.int x.file.bill.need,.int x.file.bill.rate,.int x.file.bill.flags,.int x.file.bill.parts,signs x.file.signs,alters x.file.alters,acts x.file.acts,facts x.file.facts,.int x.sign,.int x.holder,.int x.defence,.int x.due,.int x.day])=dp x:=_root_.id rfl
@[simp] theorem ax8 (x:Case):(dp x).c 9=.int x.file.bill.city:=_root_.id rfl
@[simp] theorem ax1 (x:Case):(dp x).c 10=.int x.file.bill.pay:=_root_.id rfl
@[simp] theorem ax2 (x:Case):(dp x).c 15=signs x.file.signs:=_root_.id rfl
@[simp] theorem ax3 (x:Case):(dp x).c 19=.int x.sign:=_root_.id rfl
@[simp] theorem ax4 (x:Case):(dp x).c 20=.int x.holder:=_root_.id rfl
@[simp] theorem ax5 (x:Case):(dp x).c 21=.int x.defence:=_root_.id rfl
@[simp] theorem ax6 (x:Case):(dp x).c 22=.int x.due:=_root_.id rfl
@[simp] theorem ax7 (x:Case):(dp x).c 23=.int x.day:=_root_.id rfl
def cases(l:List Case):D:=.list (l.map dp)
abbrev aw4:Ty:=.agg [.int .i64,.int .i64,.int .i64,.int .i64,.int .i64,.int .i64,.int .i64,.int .i64,.int .i64,.int .i64,.int .i64,.int .i64,.int .i64,.int .i64,.int .i64,.slice RZ,.slice RP,.slice RO,.slice RS,.int .i64,.int .i64,.int .i64,.int .i64,.int .i64]
def Case.OK (x:Case):Prop:=File.OK x.file∧aV x.sign∧aV x.holder∧aV x.defence∧aV x.due∧aV x.day
theorem afU {d:D}(h:DTy aw4 d):∃x:Case,d=dp x∧x.OK:=by
 obtain⟨ds,rfl,hs⟩:=h.agg_inv;obtain⟨d0,ds,rfl,h0,hs⟩:=hs.cons_inv;obtain⟨d1,ds,rfl,h1,hs⟩:=hs.cons_inv;obtain⟨d2,ds,rfl,h2,hs⟩:=hs.cons_inv;obtain⟨d3,ds,rfl,h3,hs⟩:=hs.cons_inv;obtain⟨d4,ds,rfl,h4,hs⟩:=hs.cons_inv;obtain⟨d5,ds,rfl,h5,hs⟩:=hs.cons_inv;obtain⟨d6,ds,rfl,h6,hs⟩:=hs.cons_inv;obtain⟨d7,ds,rfl,h7,hs⟩:=hs.cons_inv;obtain⟨d8,ds,rfl,h8,hs⟩:=hs.cons_inv;obtain⟨d9,ds,rfl,h9,hs⟩:=hs.cons_inv;obtain⟨d10,ds,rfl,oV,hs⟩:=hs.cons_inv;obtain⟨d11,ds,rfl,oW,hs⟩:=hs.cons_inv;obtain⟨d12,ds,rfl,Kw,hs⟩:=hs.cons_inv;obtain⟨d13,ds,rfl,h13,hs⟩:=hs.cons_inv;obtain⟨d14,ds,rfl,h14,hs⟩:=hs.cons_inv;obtain⟨d15,ds,rfl,DN,hs⟩:=hs.cons_inv;obtain⟨d16,ds,rfl,DO,hs⟩:=hs.cons_inv;obtain⟨d17,ds,rfl,DP,hs⟩:=hs.cons_inv;obtain⟨d18,ds,rfl,DQ,hs⟩:=hs.cons_inv;obtain⟨d19,ds,rfl,DR,hs⟩:=hs.cons_inv;obtain⟨d20,ds,rfl,h20,hs⟩:=hs.cons_inv;obtain⟨d21,ds,rfl,h21,hs⟩:=hs.cons_inv;obtain⟨d22,ds,rfl,h22,hs⟩:=hs.cons_inv;obtain⟨d23,ds,rfl,h23,hs⟩:=hs.cons_inv;obtain rfl:=hs.nil_inv;obtain⟨n0,rfl,b0⟩:=h0.i64_inv;obtain⟨n1,rfl,b1⟩:=h1.i64_inv;obtain⟨n2,rfl,b2⟩:=h2.i64_inv;obtain⟨n3,rfl,b3⟩:=h3.i64_inv;obtain⟨n4,rfl,b4⟩:=h4.i64_inv;obtain⟨n5,rfl,b5⟩:=h5.i64_inv;obtain⟨n6,rfl,b6⟩:=h6.i64_inv;obtain⟨n7,rfl,b7⟩:=h7.i64_inv;obtain⟨n8,rfl,b8⟩:=h8.i64_inv;obtain⟨n9,rfl,b9⟩:=h9.i64_inv;obtain⟨n10,rfl,Je⟩:=oV.i64_inv;obtain⟨n11,rfl,Jf⟩:=oW.i64_inv;obtain⟨n12,rfl,Jg⟩:=Kw.i64_inv;obtain⟨n13,rfl,Jh⟩:=h13.i64_inv;obtain⟨n14,rfl,Ji⟩:=h14.i64_inv;obtain⟨n15,rfl,Cm,c15⟩:=auM DN;obtain⟨n16,rfl,Jj,c16⟩:=adA DO;obtain⟨n17,rfl,Jk,c17⟩:=adu DP;obtain⟨n18,rfl,Jl,c18⟩:=ajj DQ;obtain⟨n19,rfl,b19⟩:=DR.i64_inv;obtain⟨n20,rfl,b20⟩:=h20.i64_inv;obtain⟨n21,rfl,b21⟩:=h21.i64_inv;obtain⟨n22,rfl,b22⟩:=h22.i64_inv;obtain⟨n23,rfl,b23⟩:=h23.i64_inv;exact⟨⟨⟨⟨n0,n1,n2,n3,n4,⟨n5,n6,n7⟩,n8,n9,n10,n11,n12,n13,n14⟩,n15,n16,n17,n18⟩,n19,n20,n21,n22,n23⟩,rfl,⟨⟨⟨b0,b1,b2,b3,b4,⟨b5,b6,b7⟩,b8,b9,Je,Jf,Jg,Jh,Ji⟩,⟨Cm,c15⟩,⟨Jj,c16⟩,⟨Jk,c17⟩,⟨Jl,c18⟩⟩,b19,b20,b21,b22,b23⟩⟩
structure Cell where
 known:Bool
 n:Int
 deriving DecidableEq,Inhabited
def cA (x:Cell):D:=.agg [.bool x.known,.int x.n]
@[simp] theorem ayc (x:Cell):(cA x).cells=[.bool x.known,.int x.n]:=_root_.id rfl
@[simp] theorem aCq (x:Cell):D.agg [.bool x.known,.int x.n]=cA x:=_root_.id rfl
@[simp] theorem aya (x:Cell):(cA x).c 0=.bool x.known:=_root_.id rfl
@[simp] theorem ayb (x:Cell):(cA x).c 1=.int x.n:=_root_.id rfl
def cells (l:List Cell):D:=.list (l.map cA)
@[simp] theorem az3 (l:List Cell):(cells l).l=l.map cA:=_root_.id rfl
@[simp] theorem az2 (l:List Cell):(cells l).cells=[cells l]:=_root_.id rfl
structure Said where
 cell:Cell
 order:Int
 path:List Int
 err:Int
 deriving Inhabited
def ib (x:Said):D:=.agg [.bool x.cell.known,.int x.cell.n,.int x.order,ints x.path,.int x.err]
@[simp] theorem ay8 (x:Said):(ib x).cells=[.bool x.cell.known,.int x.cell.n,.int x.order,ints x.path,.int x.err]:=_root_.id rfl
@[simp] theorem aCC (x:Said):D.agg [.bool x.cell.known,.int x.cell.n,.int x.order,ints x.path,.int x.err]=ib x:=_root_.id rfl
@[simp] theorem azI (x:Said):iO 5 (ib x)=ib x:=_root_.id rfl
@[simp] theorem ay3 (x:Said):(ib x).c 0=.bool x.cell.known:=_root_.id rfl
@[simp] theorem ay4 (x:Said):(ib x).c 1=.int x.cell.n:=_root_.id rfl
@[simp] theorem ay5 (x:Said):(ib x).c 2=.int x.order:=_root_.id rfl
@[simp] theorem ay6 (x:Said):(ib x).c 3=ints x.path:=_root_.id rfl
@[simp] theorem ay7 (x:Said):(ib x).c 4=.int x.err:=_root_.id rfl
@[simp] theorem aDJ (a0 x0:D):dF [a0] 0 [x0]=[x0]:=_root_.id rfl
@[simp] theorem aDK (a0 a1 x0 x1:D):dF [a0,a1] 0 [x0,x1]=[x0,x1]:=_root_.id rfl
@[simp] theorem aDL (a0 a1 a2 x0 x1 x2:D):dF [a0,a1,a2] 0 [x0,x1,x2]=[x0,x1,x2]:=_root_.id rfl
@[simp] theorem aDM (a0 a1 a2 a3 x0 x1 x2 x3:D):dF [a0,a1,a2,a3] 0 [x0,x1,x2,x3]=[x0,x1,x2,x3]:=_root_.id rfl
@[simp] theorem aDN (a0 a1 a2 a3 a4 x0 x1 x2 x3 x4:D):dF [a0,a1,a2,a3,a4] 0 [x0,x1,x2,x3,x4]=[x0,x1,x2,x3,x4]:=_root_.id rfl
@[simp] theorem aDO (a0 a1 a2 a3 a4 a5 x0 x1 x2 x3 x4 x5:D):dF [a0,a1,a2,a3,a4,a5] 0 [x0,x1,x2,x3,x4,x5]=[x0,x1,x2,x3,x4,x5]:=_root_.id rfl
@[simp] theorem aDP (a0 a1 a2 a3 a4 a5 a6 a7 a8 x0 x1 x2 x3 x4 x5 x6 x7 x8:D):dF [a0,a1,a2,a3,a4,a5,a6,a7,a8] 0 [x0,x1,x2,x3,x4,x5,x6,x7,x8]=[x0,x1,x2,x3,x4,x5,x6,x7,x8]:=_root_.id rfl
end Rm
set_option maxRecDepth 100000
namespace Rm
open Go Go.Proofs Cx
abbrev I:Ty:=.int .i64
abbrev Y0:Ty:=.agg [.str,I,I,(.slice I),(.slice I),(.slice I)]
abbrev Y1:Ty:=.agg [I]
abbrev Y2:Ty:=.agg [.str,I,I]
abbrev Y3:Ty:=.agg [I,I,.bool]
abbrev Y4:Ty:=.agg [I,I,I,(.slice .trm)]
abbrev Y5:Ty:=.agg [.str,.bool,(.slice Y3),(.slice Y4)]
abbrev Y6:Ty:=.agg [I,I,I]
abbrev Y7:Ty:=.agg [I,I,I,I,I]
abbrev Y8:Ty:=.agg [(.slice .str),(.slice Y0),(.slice Y1),(.slice Y2),(.slice Y5),(.slice Y6),(.slice Y7),(.slice Y6)]
abbrev Y9:Ty:=.agg [I,I,I,I,I,I,I,I,I]
abbrev p6:Ty:=.agg [I,I]
abbrev jX:Ty:=.agg [I,I,I,I,I,I,I,I,I,I,I,I,I,I,I,(.slice Y9),(.slice p6),(.slice Y9),(.slice Y6),I,I,I,I,I]
abbrev me:Ty:=.agg [I,I,I,I,I,I,I,I,I,I,I,I,I,I,I,(.slice Y9),(.slice p6),(.slice Y9),(.slice Y6)]
abbrev rI:Ty:=.agg [.bool,I,I,(.slice I),I]
abbrev hZ:Ty:=.agg [.bool,I]
abbrev nm:Ty:=.agg [I,I,(.slice .trm)]
abbrev Sl:Ty:=.agg [I,I,I,I,I,I,I,I,I,I,I,I,I,I,I]
abbrev Sm:Ty:=.agg [(.slice hZ)]
abbrev Y18:Ty:=.agg [(.slice I),I]
def af:List (Nat×Sig):=[
 (6,⟨[Y8,I,I,jX],.bool,.dat⟩),
 (26,⟨[],.bool,.dat⟩),
 (27,⟨[Y8,me],.bool,.dat⟩),
 (28,⟨[Y8,I,I,jX],rI,.dat⟩),
 (29,⟨[Y8,I,jX],(.slice I),.dat⟩),
 (30,⟨[me,I],me,.dat⟩),
 (31,⟨[Y8,jX],(.slice hZ),.dat⟩),
 (32,⟨[Y8,I],I,.dat⟩),
 (33,⟨[Y8,I,I,(.slice I)],(.tup [(.slice I),I]),.dat⟩),
 (34,⟨[(.slice I),(.slice I)],.bool,.dat⟩),
 (35,⟨[Y5,I,(.slice hZ)],(.tup [hZ,I]),.dat⟩),
 (41,⟨[Y8,I,me,I],I,.dat⟩),
 (46,⟨[rI],I,.dat⟩),
 (48,⟨[rI],I,.dat⟩),
 (49,⟨[rI,rI],.bool,.dat⟩),
 (50,⟨[Y8,I,I,me,I],rI,.dat⟩),
 (53,⟨[Y8,me],.bool,.dat⟩),
 (54,⟨[Y8],I,.dat⟩),
 (58,⟨[Y8],.bool,.dat⟩),
 (62,⟨[Y8],I,.dat⟩),
 (79,⟨[],Y8,.dat⟩),
 (80,⟨[me],jX,.dat⟩),
 (81,⟨[I],me,.dat⟩),
 (82,⟨[Y8,I,I,jX],(.slice I),.dat⟩),
 (83,⟨[Y8,I,I,jX],(.tup [rI,(.slice hZ)]),.dat⟩),
 (84,⟨[Y8,jX],(.tup [jX,(.slice hZ)]),.dat⟩),
 (85,⟨[Y8,I,jX],(.nsl I),.dat⟩),
 (86,⟨[I,I],.bool,.dat⟩),
 (87,⟨[(.slice p6),(.fn [p6] .bool)],.bool,.dat⟩),
 (88,⟨[p6,(.ref jX)],.bool,.dat⟩),
 (89,⟨[.bool],hZ,.dat⟩),
 (90,⟨[me,I,I],hZ,.dat⟩),
 (91,⟨[I,I],.bool,.dat⟩),
 (92,⟨[Y8,I,I,(.slice I)],.bool,.dat⟩),
 (93,⟨[Y8,I,I,(.slice I)],(.tup [I,.bool]),.dat⟩),
 (94,⟨[(.slice I),I],.bool,.dat⟩),
 (95,⟨[Y5,I],(.tup [nm,I]),.dat⟩),
 (96,⟨[nm,(.slice hZ)],hZ,.dat⟩),
 (97,⟨[I],(.tup [I,.bool]),.dat⟩),
 (108,⟨[Y8,Sl,I,I],(.tup [I,I]),.dat⟩),
 (109,⟨[me],I,.dat⟩),
 (120,⟨[I],.bool,.dat⟩),
 (121,⟨[Y0,I],.bool,.dat⟩),
 (127,⟨[me],.bool,.dat⟩),
 (128,⟨[Y5],.bool,.dat⟩),
 (129,⟨[Y8],(.tup [(.slice .str),(.slice .str),(.slice .str)]),.dat⟩),
 (130,⟨[(.slice .str),I,(.fn [I] .bool)],I,.dat⟩),
 (131,⟨[I],.bool,.dat⟩),
 (132,⟨[I,(.ref Y8)],.bool,.dat⟩),
 (133,⟨[Y8,Y0],.bool,.dat⟩),
 (134,⟨[I,(.ref Y8)],.bool,.dat⟩),
 (135,⟨[I,(.ref Y8)],.bool,.dat⟩),
 (136,⟨[Y5],.bool,.dat⟩),
 (137,⟨[Y8],I,.dat⟩),
 (138,⟨[Y8],I,.dat⟩),
 (139,⟨[(.slice I)],(.tup []),.dat⟩),
 (140,⟨[(.slice I)],(.slice I),.dat⟩),
 (145,⟨[Y8],I,.dat⟩),
 (146,⟨[Y8],I,.dat⟩),
 (147,⟨[Y8],I,.dat⟩),
 (148,⟨[Y8],I,.dat⟩),
 (149,⟨[Y8],I,.dat⟩),
 (163,⟨[Y5,I,(.slice hZ)],(.slice I),.dat⟩),
 (164,⟨[(.slice p6),(.fn [p6] .bool)],I,.dat⟩),
 (165,⟨[(.slice I),(.fn [I] .bool)],.bool,.dat⟩),
 (166,⟨[I,(.ref I)],.bool,.dat⟩),
 (167,⟨[(.slice I),I],I,.dat⟩),
 (168,⟨[(.slice Y4),(.fn [Y4] .bool)],I,.dat⟩),
 (169,⟨[Y4,(.ref I)],.bool,.dat⟩),
 (170,⟨[nm],(.tup [I,I]),.dat⟩),
 (171,⟨[Sm,nm],(.tup [hZ,(.slice I)]),.dat⟩),
 (177,⟨[Y8,I],.bool,.dat⟩),
 (178,⟨[I],.bool,.dat⟩),
 (179,⟨[Y6],.bool,.dat⟩),
 (180,⟨[Y8,Sl,I],(.tup [I,I]),.dat⟩),
 (181,⟨[Y8,I,I],(.tup [I,I]),.dat⟩),
 (182,⟨[(.slice I)],I,.dat⟩),
 (185,⟨[Y8,I,I],(.tup [I,I]),.dat⟩),
 (201,⟨[I],(.tup [I,I,I]),.dat⟩),
 (203,⟨[nm],.bool,.dat⟩),
 (204,⟨[(.slice .str),I],I,.dat⟩),
 (205,⟨[(.slice I),I,I],.bool,.dat⟩),
 (206,⟨[(.slice I),I,I,I],(.tup []),.dat⟩),
 (207,⟨[(.int .u64)],I,.dat⟩),
 (208,⟨[(.slice .str),I],I,.dat⟩),
 (209,⟨[Y8,Y0],.bool,.dat⟩),
 (210,⟨[I,I,I],.bool,.dat⟩),
 (211,⟨[Y5],.bool,.dat⟩),
 (215,⟨[nm,(.slice hZ)],(.slice I),.dat⟩),
 (216,⟨[(.slice I),(.fn [I] .bool)],I,.dat⟩),
 (217,⟨[nm,I],I,.dat⟩),
 (218,⟨[nm],(.tup [I,I]),.dat⟩),
 (219,⟨[Sm,I],hZ,.dat⟩),
 (220,⟨[I,(.slice hZ)],hZ,.dat⟩),
 (221,⟨[(.slice (.slice I))],(.slice I),.dat⟩),
 (223,⟨[I,Y6],(.tup [I,I]),.dat⟩),
 (224,⟨[Y8,I,I],I,.dat⟩),
 (225,⟨[Y0,I],(.tup [I,I]),.dat⟩),
 (228,⟨[I],.bool,.dat⟩),
 (243,⟨[nm,I,I],I,.dat⟩),
 (244,⟨[.str],.bool,.dat⟩),
 (245,⟨[(.slice .str),.str],.bool,.dat⟩),
 (246,⟨[(.slice I),I,I],(.tup []),.dat⟩),
 (247,⟨[(.slice I),I,I],(.tup []),.dat⟩),
 (248,⟨[(.slice I),I,I],(.tup []),.dat⟩),
 (249,⟨[(.slice I),I,I],(.tup [I,I]),.dat⟩),
 (250,⟨[(.slice I),I,I],(.tup []),.dat⟩),
 (251,⟨[(.slice I),I,I],.bool,.dat⟩),
 (252,⟨[I,I],.bool,.dat⟩),
 (253,⟨[(.slice I),I,I,I],I,.dat⟩),
 (254,⟨[(.slice I),I,I,I],(.tup [I,.bool]),.dat⟩),
 (255,⟨[(.int .u32)],I,.dat⟩),
 (256,⟨[(.int .u64)],I,.dat⟩),
 (257,⟨[.str],.bool,.dat⟩),
 (258,⟨[(.slice .str),I,.str],.bool,.dat⟩),
 (259,⟨[(.slice I),I,I],.bool,.dat⟩),
 (260,⟨[nm],(.tup [I,I]),.dat⟩),
 (261,⟨[I],Y18,.dat⟩),
 (262,⟨[I],(.tup [I,.bool]),.dat⟩),
 (263,⟨[.bool],hZ,.dat⟩),
 (264,⟨[I],I,.dat⟩),
 (265,⟨[I,I,I],I,.dat⟩),
 (266,⟨[.nils .bool,I],(.slice I),(.row 3 I)⟩),
 (267,⟨[I,I],(.tup [I,I]),.dat⟩),
 (268,⟨[Y0,I,I],(.fn [(.fn [I] .bool)] (.tup [])),.dat⟩),
 (279,⟨[(.slice .str),.str],I,.dat⟩),
 (285,⟨[(.int .u8)],.bool,.dat⟩),
 (286,⟨[I,I],I,.dat⟩),
 (287,⟨[I,I,I],(.tup [I,I]),.dat⟩),
 (288,⟨[I,I],I,.dat⟩),
 (298,⟨[(.int .u64),(.int .u64)],(.tup [(.int .u64),(.int .u64)]),.dat⟩),
 (299,⟨[I,I,I],I,.dat⟩)]
def JV:List (Nat×CSig):=[
 (88,⟨[(.ref jX)],[p6],.bool⟩),
 (131,⟨[],[I],.bool⟩),
 (132,⟨[(.ref Y8)],[I],.bool⟩),
 (134,⟨[(.ref Y8)],[I],.bool⟩),
 (135,⟨[(.ref Y8)],[I],.bool⟩),
 (166,⟨[(.ref I)],[I],.bool⟩),
 (169,⟨[(.ref I)],[Y4],.bool⟩),
 (289,⟨[(.ref I),(.ref I),(.ref Y0)],[(.fn [I] .bool)],(.tup [])⟩)]
abbrev Xv:Nat:=6
abbrev XA:Nat:=26
abbrev Xx:Nat:=27
abbrev W7:Nat:=28
abbrev Xc:Nat:=29
abbrev X6:Nat:=30
abbrev X9:Nat:=31
abbrev M6:Nat:=32
abbrev Xs:Nat:=33
abbrev XQ:Nat:=34
abbrev XB:Nat:=35
abbrev W9:Nat:=41
abbrev Xd:Nat:=46
abbrev Xb:Nat:=48
abbrev XU:Nat:=49
abbrev W8:Nat:=50
abbrev XT:Nat:=53
abbrev XV:Nat:=54
abbrev XE:Nat:=58
abbrev XD:Nat:=62
abbrev Xz:Nat:=79
abbrev Xw:Nat:=80
abbrev Xy:Nat:=81
abbrev Xa:Nat:=82
abbrev Xe:Nat:=83
abbrev Xf:Nat:=84
abbrev ar3:Nat:=85
abbrev Yc:Nat:=86
abbrev Ye:Nat:=87
abbrev Ya:Nat:=88
abbrev Yb:Nat:=89
abbrev X7:Nat:=90
abbrev XY:Nat:=91
abbrev Xu:Nat:=92
abbrev Xt:Nat:=93
abbrev M9:Nat:=94
abbrev MZ:Nat:=95
abbrev Ys:Nat:=96
abbrev MY:Nat:=97
abbrev E2:Nat:=108
abbrev X8:Nat:=109
abbrev Xr:Nat:=120
abbrev Xq:Nat:=121
abbrev XO:Nat:=127
abbrev XS:Nat:=128
abbrev X1:Nat:=129
abbrev XX:Nat:=130
abbrev M2:Nat:=131
abbrev M3:Nat:=132
abbrev XW:Nat:=133
abbrev M4:Nat:=134
abbrev M5:Nat:=135
abbrev X2:Nat:=136
abbrev X5:Nat:=137
abbrev X3:Nat:=138
abbrev Yl:Nat:=139
abbrev Yd:Nat:=140
abbrev XJ:Nat:=145
abbrev XK:Nat:=146
abbrev XL:Nat:=147
abbrev XN:Nat:=148
abbrev XM:Nat:=149
abbrev MX:Nat:=163
abbrev Yh:Nat:=164
abbrev Yf:Nat:=165
abbrev MW:Nat:=166
abbrev Nb:Nat:=167
abbrev Na:Nat:=168
abbrev E1:Nat:=169
abbrev Nf:Nat:=170
abbrev E4:Nat:=171
abbrev Yq:Nat:=177
abbrev Nc:Nat:=178
abbrev Yo:Nat:=179
abbrev E3:Nat:=180
abbrev Nd:Nat:=181
abbrev Yk:Nat:=182
abbrev M7:Nat:=185
abbrev Xm:Nat:=201
abbrev XP:Nat:=203
abbrev X0:Nat:=204
abbrev X4:Nat:=205
abbrev Yn:Nat:=206
abbrev Xg:Nat:=207
abbrev Au:Nat:=208
abbrev M0:Nat:=209
abbrev XI:Nat:=210
abbrev M1:Nat:=211
abbrev Yt:Nat:=215
abbrev Yi:Nat:=216
abbrev Nl:Nat:=217
abbrev Nh:Nat:=218
abbrev Nk:Nat:=219
abbrev Ni:Nat:=220
abbrev M8:Nat:=221
abbrev Yp:Nat:=223
abbrev Yr:Nat:=224
abbrev Xl:Nat:=225
abbrev XR:Nat:=243
abbrev XZ:Nat:=244
abbrev Yg:Nat:=245
abbrev Ym:Nat:=246
abbrev Xh:Nat:=256
abbrev XG:Nat:=257
abbrev XC:Nat:=258
abbrev XH:Nat:=259
abbrev Nj:Nat:=260
abbrev Nm:Nat:=261
abbrev Ng:Nat:=262
abbrev Nn:Nat:=263
abbrev Yv:Nat:=264
abbrev Yu:Nat:=265
abbrev Xj:Nat:=267
abbrev Xn:Nat:=268
abbrev Yj:Nat:=279
abbrev XF:Nat:=285
abbrev Yw:Nat:=286
abbrev Xk:Nat:=287
abbrev Xp:Nat:=288
abbrev Xo:Nat:=289
abbrev Xi:Nat:=298
abbrev MV:Nat:=299
noncomputable def ctx:Ctx:={P:=Tryz.prog,cap:=ae JV,sig:=ae af,arN:=fun _=>none,glob:=P0 0 [6,7,10,12,13,14,15,16,20,21]}
abbrev eW:PE:=.con (.v (.string ⟨#[0,1,2,2,3,3,3,3,4,4,4,4,4,4,4,4,5,5,5,5,5,5,5,5,5,5,5,5,5,5,5,5,6,6,6,6,6,6,6,6,6,6,6,6,6,6,6,6,6,6,6,6,6,6,6,6,6,6,6,6,6,6,6,6,7,7,7,7,7,7,7,7,7,7,7,7,7,7,7,7,7,7,7,7,7,7,7,7,7,7,7,7,7,7,7,7,7,7,7,7,7,7,7,7,7,7,7,7,7,7,7,7,7,7,7,7,7,7,7,7,7,7,7,7,7,7,7,7,8,8,8,8,8,8,8,8,8,8,8,8,8,8,8,8,8,8,8,8,8,8,8,8,8,8,8,8,8,8,8,8,8,8,8,8,8,8,8,8,8,8,8,8,8,8,8,8,8,8,8,8,8,8,8,8,8,8,8,8,8,8,8,8,8,8,8,8,8,8,8,8,8,8,8,8,8,8,8,8,8,8,8,8,8,8,8,8,8,8,8,8,8,8,8,8,8,8,8,8,8,8,8,8,8,8,8,8,8,8,8,8,8,8,8,8,8,8,8,8,8,8,8,8,8,8,8,8]⟩))
abbrev AL:PE:=.setc (.con (.agg [(.list []),(.list []),(.list []),(.list []),(.list []),(.list []),(.list []),(.list [])])) 0 (.mk [(.lst [(.con (.v (.string ⟨#[102,114,97,110,99]⟩)))]),(.lst [(.mk [(.con (.v (.string ⟨#[76,121,111,110]⟩))),(pi 0),(pi 0),pL,pL,pL]),(.mk [(.con (.v (.string ⟨#[76,111,110,100,111,110]⟩))),(pi 1),(pi 0),pL,pL,pL])]),(.lst [(.mk [(pi 0)])]),(.lst [(.mk [(.con (.v (.string ⟨#[97]⟩))),(pi 0),(pi 0)]),(.mk [(.con (.v (.string ⟨#[98]⟩))),(pi 1),(pi 0)])]),(.lst [(.mk [(pc (.setc (.con (.agg [(.v (.string ⟨#[]⟩)),(.bool false),(.list []),(.list [])])) 0 (.mk [(.con (.v (.string ⟨#[103,101,110,101,118,97]⟩))),pF,pL,(.lst [(.mk [(pi 2),(.mk [(pc (.setc (.con (.agg [(.int 0),(.int 0),(.list [])])) 0 (.mk [(pi 2),(pi 15),pL])) 0),(pc (.setc (.con (.agg [(.int 0),(.int 0),(.list [])])) 0 (.mk [(pi 2),(pi 15),pL])) 1),pL])]),(.mk [(pi 6),(.mk [(pi 0),(pi 0),pL])])])])) 0),(pc (.setc (.con (.agg [(.v (.string ⟨#[]⟩)),(.bool false),(.list []),(.list [])])) 0 (.mk [(.con (.v (.string ⟨#[103,101,110,101,118,97]⟩))),pF,pL,(.lst [(.mk [(pi 2),(.mk [(pc (.setc (.con (.agg [(.int 0),(.int 0),(.list [])])) 0 (.mk [(pi 2),(pi 15),pL])) 0),(pc (.setc (.con (.agg [(.int 0),(.int 0),(.list [])])) 0 (.mk [(pi 2),(pi 15),pL])) 1),pL])]),(.mk [(pi 6),(.mk [(pi 0),(pi 0),pL])])])])) 1),pL,(pc (.setc (.con (.agg [(.v (.string ⟨#[]⟩)),(.bool false),(.list []),(.list [])])) 0 (.mk [(.con (.v (.string ⟨#[103,101,110,101,118,97]⟩))),pF,pL,(.lst [(.mk [(pi 2),(.mk [(pc (.setc (.con (.agg [(.int 0),(.int 0),(.list [])])) 0 (.mk [(pi 2),(pi 15),pL])) 0),(pc (.setc (.con (.agg [(.int 0),(.int 0),(.list [])])) 0 (.mk [(pi 2),(pi 15),pL])) 1),pL])]),(.mk [(pi 6),(.mk [(pi 0),(pi 0),pL])])])])) 3)]),(au 4 (.setc (.con (.agg [(.v (.string ⟨#[]⟩)),(.bool false),(.list []),(.list [])])) 0 (.mk [(.con (.v (.string ⟨#[108,111,110,100,111,110]⟩))),pF,(.lst [(.mk [(pi 2),(pi 1),pF])]),(.lst [(.mk [(pi 2),(.mk [(pc (.setc (.con (.agg [(.int 0),(.int 0),(.list [])])) 0 (.mk [(pi 4),(pi 0),(.lst [(.mk [(pc (.setc (.con (.agg [(.int 0),(.int 0),(.list [])])) 0 (.mk [(pi 2),(pi 15),pL])) 0),(pc (.setc (.con (.agg [(.int 0),(.int 0),(.list [])])) 0 (.mk [(pi 2),(pi 15),pL])) 1),pL]),(.mk [(pi 2),(pi 17),pL])])])) 0),(pc (.setc (.con (.agg [(.int 0),(.int 0),(.list [])])) 0 (.mk [(pi 4),(pi 0),(.lst [(.mk [(pc (.setc (.con (.agg [(.int 0),(.int 0),(.list [])])) 0 (.mk [(pi 2),(pi 15),pL])) 0),(pc (.setc (.con (.agg [(.int 0),(.int 0),(.list [])])) 0 (.mk [(pi 2),(pi 15),pL])) 1),pL]),(.mk [(pi 2),(pi 17),pL])])])) 1),(pc (.setc (.con (.agg [(.int 0),(.int 0),(.list [])])) 0 (.mk [(pi 4),(pi 0),(.lst [(.mk [(pc (.setc (.con (.agg [(.int 0),(.int 0),(.list [])])) 0 (.mk [(pi 2),(pi 15),pL])) 0),(pc (.setc (.con (.agg [(.int 0),(.int 0),(.list [])])) 0 (.mk [(pi 2),(pi 15),pL])) 1),pL]),(.mk [(pi 2),(pi 17),pL])])])) 2)])]),(.mk [(pi 6),(.mk [(pi 0),(pi 3),pL])])])])))]),pL,pL,pL])
abbrev tw:PE:=.ai .quo .i64 (bh (aH (bh (.ai .rem .i64 (aH r0 (pi 730425)) (pi 146097)) (.ai .quo .i64 (.ai .rem .i64 (aH r0 (pi 730425)) (pi 146097)) (pi 1460))) (.ai .quo .i64 (.ai .rem .i64 (aH r0 (pi 730425)) (pi 146097)) (pi 36524))) (.ai .quo .i64 (.ai .rem .i64 (aH r0 (pi 730425)) (pi 146097)) (pi 146096))) (pi 365)
abbrev iK:PE:=.setc (.con (.agg [(.int 0),(.int 0),(.int 0),(.int 0),(.int 0),(.int 0),(.int 0),(.int 0),(.int 0),(.int 0),(.int 0),(.int 0),(.int 0),(.int 0),(.int 0),(.list []),(.list []),(.list []),(.list [])])) 0 (.mk [(au 15 (.setc IT 0 (.mk [(pi 0),(pi 1),(pi 0),(pi 5),(pi 0),(.mk [(pi 3),(pi 10),(pi 0)]),(pi 2),r0,(pi 1),(pi (-1)),(pi 0),(pi 1),(pi 1)]))),(.lst [(au 9 (.setc z9 0 (.mk [(pi 0),(pi 0),(pi 0),(pi (-1)),(pi (-1)),(pi 0),(pi 2),r0,(pi 0)])))]),pL,pL,(.lst [(.mk [(pi 0),(pi 0),(pi 1)])])])
abbrev ej:PE:=.con (.agg [(.bool false),(.int 0)])
abbrev HC:PE:=.ai .quo .i64 (aH (.ai .mul .i64 (pi 5) (bh (.ai .rem .i64 (aH r0 (pi 730425)) (pi 146097)) (bh (aH (.ai .mul .i64 (pi 365) tw) (.ai .quo .i64 tw (pi 4))) (.ai .quo .i64 tw (pi 100))))) (pi 2)) (pi 153)
abbrev nX:PE:=.deref (.con (.ref (.agg [(.int 6),(.int 7),(.int 10),(.int 12),(.int 13),(.int 14),(.int 15),(.int 16),(.int 20),(.int 21)])))
abbrev HF:PE:=.put (.put (.put (.put (.con (.map [])) (pi 7) (aO (.ai .and .i64 (pc o6 13) (pi 1)) (pi 0))) (pi 8) (aw (pc o6 2) (pi (-1)))) (pi 9) (aO (.ai .and .i64 (pc o6 13) (pi 4)) (pi 0))) (pi 10) (aO (.ai .and .i64 (pc o6 13) (pi 2)) (pi 0))
abbrev nZ:PE:=.con (.agg [(.bool false),(.int 0),(.int 0),(.list []),(.int 0)])
abbrev iJ:PE:=.con (.agg [(.int 0),(.int 0),(.list [])])
abbrev Hw:PE:=.con (.agg [(.int 0),(.int 0),(.int 0),(.int 0),(.int 0),(.int 0),(.int 0),(.int 0),(.int 0),(.int 0),(.int 0),(.int 0),(.int 0),(.int 0),(.int 0),(.list []),(.list []),(.list []),(.list [])])
abbrev pH:PE:=.ai .shr .u64 r0 (.con (.v (.int .u64 32)))
abbrev jI:PE:=.con (.agg [(.list []),(.int 0)])
abbrev Ot:PE:=.con (.agg [(.int 0),(.int 0),(.int 0),(.int 0),(.int 0),(.int 0),(.int 0),(.int 0),(.int 0),(.int 0),(.int 0),(.int 0),(.int 0),(.int 0),(.int 0),(.list []),(.list []),(.list []),(.list []),(.int 0),(.int 0),(.int 0),(.int 0),(.int 0)])
abbrev cG:PE:=pi 4294967296
abbrev v8:PE:=.mk [(pc (.setc ej 0 eX) 0),(pc (.setc ej 0 eX) 1)]
abbrev v9:PE:=.con (.v (.int .u64 16))
abbrev lg:PE:=.con (.v (.int .u64 8))
abbrev wc:PE:=.setc z9 0 (pn (pc (.mk [r2]) 15) (pc (.mk [r2]) 19))
abbrev gY:PE:=.setc (.mk [r3]) 18 pL
abbrev Ou:PE:=.put (.put (.put (.con (.map [])) (pi 0) (pc o6 3)) (pi 1) (pc o6 14)) (pi 2) (pc o6 5)
abbrev Hx:PE:=.pick (.pick (aw (.tget pK 0) (pi 0)) (pc bk 0) pF) (.setc bk 1 (.mn (.mx (pc bk 1) (pi 0)) (pi 20000))) bk
abbrev AM:PE:=.mk [(pc (.setc o4 0 (.mk [pF,(pi 0)])) 0),(pc (.setc o4 0 (.mk [pF,(pi 0)])) 1)]
abbrev Hy:PE:=.con (.agg [(.int 0),(.int 0),(.bool false)])
abbrev tu:PE:=.setc (.setc bk 3 (.tget m6 0)) 4 (.tget m6 1)
abbrev aam:PE:=.ai .add .u64 (.ai .mul .u64 pH (.ai .and .u64 r1 (.con (.v (.int .u64 4294967295))))) (.ai .shr .u64 (.ai .mul .u64 (.ai .and .u64 r0 (.con (.v (.int .u64 4294967295)))) (.ai .and .u64 r1 (.con (.v (.int .u64 4294967295))))) (.con (.v (.int .u64 32))))
abbrev we:PE:=pc (.mk [r0]) 2
abbrev jJ:PE:=pc (.mk [r0]) 0
abbrev Hz:PE:=aH (bh (aH (.ai .mul .i64 (pi 12) (.tget kp 0)) (.tget kp 1)) (pi 1)) r1
abbrev jK:PE:=.llen (pc o1 1)
abbrev ko:PE:=au 8 (.mk [r0])
abbrev Ov:PE:=.mk [(pc (.setc o4 0 (.mk [(pi 0),(pi 0),pL])) 0),(pc (.setc o4 0 (.mk [(pi 0),(pi 0),pL])) 1),pL]
abbrev wg:PE:=.setc z3 0 (pn bT cS)
abbrev tz:PE:=.setc ej 0 (.mk [pT,(pi 1)])
abbrev lh:PE:=.llen (pc o1 3)
abbrev aan:PE:=.pick (.pick (aw (.tget fX 0) (.con (.v (.int .u64 0)))) (ak (.tget fX 1) (.con (.v (.int .u64 1099511627776)))) pF) (.conv .i64 (.tget fX 1)) (pi 1099511627776)
abbrev Ow:PE:=au 5 (.setc o8 0 (.mk [(pc bk 0),(pc bk 1),(pc bk 2),(.o 16394),(pc bk 4)]))
abbrev pI:PE:=pc (.mk [r0]) 1
abbrev lU:PE:=.llen (pc o3 2)
abbrev lV:PE:=.llen (pc o1 4)
abbrev aao:PE:=.pick (.pick (.pick (ak (pc wc 2) (pi 0)) pT (bt (pc wc 2) (.llen (pc (.mk [r0]) 3)))) pT (ak r1 (pi 0))) pT (bt r1 (.llen (pc (.mk [r0]) 4)))
abbrev AN:PE:=.setc z9 0 (pn (pc kl 15) (pc o7 19))
abbrev Ox:PE:=.put (.con (.map [])) (pi 7) (aO (.ai .and .i64 (pc o6 13) (pi 1)) (pi 0))
abbrev aap:PE:=.app o2 (.lst [(pc (.setc (.con (.agg [(.v (.string ⟨#[]⟩)),(.int 0),(.int 0),(.list []),(.list []),(.list [])])) 0 (pn bT cS)) 0)])
abbrev AO:PE:=bh (pi 2) (pc (pn o7 (pi 0)) 1)
abbrev HA:PE:=.setc iJ 0 (.sub (pn (pc o2 3) kp) 1 3)
abbrev nU:PE:=.llen (pc o1 2)
abbrev AP:PE:=pn bU (bh (.llen bU) (pi 1))
abbrev HB:PE:=.pick (ak r1 (pi 3)) (bh r0 (pi 1)) r0
abbrev aaq:PE:=.app o4 (.lst [(pc (.setc (.con (.agg [(.v (.string ⟨#[]⟩)),(.bool false),(.list []),(.list [])])) 0 (pn gJ oa)) 0)])
abbrev nV:PE:=aH r5 (pi 1)
abbrev nW:PE:=aH r3 (pi 1)
abbrev wh:PE:=.con (.v (.int .u64 32))
abbrev aar:PE:=.setc (.con (.agg [(.list []),(.list []),(.list []),(.list []),(.list []),(.list []),(.list []),(.list [])])) 0 dj
abbrev aas:PE:=.put (.put (.put HF (pi 11) (aO OF OG)) (pi 12) dx) (pi 13) (aO (.ai .and .i64 (pc o8 8) (pi 1)) (pi 0))
abbrev mY:PE:=pn r1 (pi 1)
abbrev Oy:PE:=.put (.put Ou (pi 3) (pc o6 12)) (pi 4) (pc o8 0)
abbrev aat:PE:=.pick (be (.llen (pc (pn (pc o1 1) r3) 4)) (pi 70)) pT (be (.llen (pc (pn (pc o1 1) r3) 5)) (pi 210))
abbrev AQ:PE:=.setc nZ 0 (.tget bU 0)
abbrev AR:PE:=.setc Hy 0 (pn kp gI)
abbrev mZ:PE:=.llen we
abbrev aau:PE:=.app o3 (.lst [(pc (.setc (.con (.agg [(.v (.string ⟨#[]⟩)),(.int 0),(.int 0)])) 0 (pn gI eX)) 0)])
abbrev aav:PE:=.app o4 (.lst [(pc (.setc (.con (.agg [(.int 0),(.int 0),(.int 0),(.list [])])) 0 (pn eX m4)) 0)])
abbrev qZ:PE:=.llen (pc o1 0)
abbrev aaw:PE:=.an (.cb .eql (pc (pn r1 (pi 0)) 0) (pc v8 0)) (.an (aw (pc (pn r1 (pi 0)) 1) (pc v8 1)) pT)
abbrev aax:PE:=.app (.o 69637) (.lst [(.mk [(pc (.setc z2 0 (pn pP lX)) 0),(pc (.setc z2 0 (pn pP lX)) 1)])])
abbrev AS:PE:=.ai .shr .u64 pH v9
abbrev Oz:PE:=.setc o4 0 (.mk [(pc o9 0),(pc o9 1),(pc o9 2)])
abbrev aay:PE:=.pick (.nt (.nt (.an (.an cS pT) (.nt pF)))) (.app (.o 1000) (.lst [(.tup [r5])])) (.o 1000)
abbrev wj:PE:=aO (pi 100) (pi 0)
abbrev HD:PE:=.setc ej 0 (.tget (.r 231) 0)
abbrev aaz:PE:=.pick (be (aH HC (pi 3)) (pi 12)) (bh (aH HC (pi 3)) (pi 12)) (aH HC (pi 3))
abbrev aaA:PE:=.setc o4 0 (.mk [(pc (.setc ej 0 (.tget jn 0)) 0),(pc (.setc ej 0 (.tget jn 0)) 1)])
abbrev AT:PE:=.setc z9 0 (pn r34 iL)
abbrev HE:PE:=.setc ej 0 (.mk [pT,(pi 0)])
abbrev tA:PE:=pn (pc o1 4) r4
abbrev OA:PE:=aw (.sidx r0 r3) (.con (.v (.int .u8 95)))
abbrev tB:PE:=pc (.mk [r0]) 5
abbrev tC:PE:=pc (.mk [r0]) 4
abbrev aaB:PE:=.pick (.pick (aw (pc wg 0) r1) (bM (pc wg 1) r2) pF) (bM r2 (pc wg 2)) pF
abbrev tD:PE:=.mk [pF,(pi 0)]
abbrev tE:PE:=.llen (pc o1 7)
abbrev AU:PE:=.con (.agg [(.int 0)])
abbrev AV:PE:=.ai .shr .u64 r0 v9
abbrev AW:PE:=.ai .shr .u32 r0 v9
abbrev aaC:PE:=aH tw (.ai .mul .i64 (pi 400) (.ai .quo .i64 (aH r0 (pi 730425)) (pi 146097)))
abbrev nY:PE:=pn cS bU
abbrev pJ:PE:=ak cS dx
abbrev OB:PE:=.app o5 (.lst [(pc (pn (pc o1 1) r6) 0)])
abbrev OC:PE:=.app o4 (.lst [(pc (pn (pc o1 3) r5) 0)])
abbrev wk:PE:=bt lg (pi 0)
abbrev HG:PE:=.con (.v (.int .u64 256))
abbrev wq:PE:=aH cS (pi 1)
abbrev wu:PE:=.llen (pc o1 5)
abbrev aaD:PE:=.setc o4 0 (.mk [(pc (.setc ej 0 HQ) 0),(pc (.setc ej 0 HQ) 1)])
abbrev aaE:PE:=.setc o4 0 (.mk [(pc (.setc ej 0 kq) 0),(pc (.setc ej 0 kq) 1)])
abbrev aaF:PE:=.setc jI 0 (.mk [(.lst [(pi 1),(pi (-1)),(pi (-1))]),(pi (-1))])
abbrev aaG:PE:=.pick (aO (pc o3 22) (pi (-1))) (bh (pc o8 6) (pc o3 22)) (pi 0)
abbrev HH:PE:=.mk [jJ,pI,we]
abbrev Oq:PE:=.ai .rem .i64 (pn r8 dj) (pi 100)
abbrev v7:PE:=bh r7 (pi 1)
abbrev aal:PE:=.app (.o 77829) (.lst [(.mk [(pc Ns 0),(pc Ns 1),(pc Ns 2)])])
end Rm
