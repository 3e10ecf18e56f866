/-
  Shared texts of this claim.
-/
import Derived.Test.YtepfoekldooaeaaGreatDoorKAJ
import Derived.Test.YtepfoekldooaeaaGreatDoorProg
set_option linter.unusedSimpArgs false
set_option linter.unusedVariables false
namespace Rm
open Go Cx
abbrev str (b:ByteArray):D:=.v (.string b)
def strs (l:List ByteArray):D:=.list (l.map str)
@[simp] theorem aDb (l:List ByteArray):(strs l).l=l.map str:=_root_.id rfl
theorem str_inv {d:D}(h:DTy .str d):∃b,d=str b:=by
 cases h with
 |str b=>exact⟨b,rfl⟩
 |other t d h=>exact h.elim
theorem aDa {d:D}(h:DTy (.slice .str) d):∃l:List ByteArray,d=strs l∧l.length≤maxLen:=by
 obtain⟨xs,rfl,hm,hx⟩:=h.slice_inv;obtain⟨l,rfl,hl⟩:=jL (enc:=str) (P:=fun _=>True) fun x hh=>(str_inv (hx x hh)).imp fun b hb=>⟨hb,trivial⟩
 exact⟨l,rfl,by simpa using hm⟩
@[simp] theorem aJx (t:Tm):(dx t).cells=[.int t.op,.int t.n,.list (t.args.map dx)]:=by rw[A4];rfl
@[simp] theorem aJy (t:Tm):D.agg [.int t.op,.int t.n,.list (t.args.map dx)]=dx t:=(A4 t).symm
@[simp] theorem aJu (t:Tm):(dx t).c 0=.int t.op:=by rw[A4];rfl
@[simp] theorem aJv (t:Tm):(dx t).c 1=.int t.n:=by rw[A4];rfl
@[simp] theorem aJw (t:Tm):(dx t).c 2=.list (t.args.map dx):=by rw[A4];rfl
structure City where
 name:ByteArray
 order:Int
 currency:Int
 rest:List Int
 feasts:List Int
 shut:List Int
 deriving Inhabited
def fy (x:City):D:=.agg [str x.name,.int x.order,.int x.currency,ints x.rest,ints x.feasts,ints x.shut]
@[simp] theorem aHR (x:City):(fy x).cells=[str x.name,.int x.order,.int x.currency,ints x.rest,ints x.feasts,ints x.shut]:=_root_.id rfl
@[simp] theorem aM3 (x:City):D.agg [str x.name,.int x.order,.int x.currency,ints x.rest,ints x.feasts,ints x.shut]=fy x:=_root_.id rfl
@[simp] theorem aJT (x:City):gi 6 (fy x)=fy x:=_root_.id rfl
@[simp] theorem aHL (x:City):(fy x).c 0=str x.name:=_root_.id rfl
@[simp] theorem aHM (x:City):(fy x).c 1=.int x.order:=_root_.id rfl
@[simp] theorem aHN (x:City):(fy x).c 2=.int x.currency:=_root_.id rfl
@[simp] theorem aHO (x:City):(fy x).c 3=ints x.rest:=_root_.id rfl
@[simp] theorem aHP (x:City):(fy x).c 4=ints x.feasts:=_root_.id rfl
@[simp] theorem aHQ (x:City):(fy x).c 5=ints x.shut:=_root_.id rfl
def lj (l:List City):D:=.list (l.map fy)
@[simp] theorem aKq (l:List City):(lj l).l=l.map fy:=_root_.id rfl
abbrev WB:Ty:=.agg [.str,.int .i64,.int .i64,.slice (.int .i64),.slice (.int .i64),.slice (.int .i64)]
def City.OK (x:City):Prop:=aX x.order∧aX x.currency∧(x.rest.length≤maxLen∧∀y,y∈x.rest→aX y)∧(x.feasts.length≤maxLen∧∀y,y∈x.feasts→aX y)∧(x.shut.length≤maxLen∧∀y,y∈x.shut→aX y)
theorem ao7 {d:D}(h:DTy WB d):∃x:City,d=fy x∧x.OK:=by
 obtain⟨ds,rfl,hs⟩:=h.agg_inv;obtain⟨d0,ds,rfl,h0,hs⟩:=hs.cons_inv;obtain⟨d1,ds,rfl,h1,hs⟩:=hs.cons_inv;obtain⟨d2,ds,rfl,h2,hs⟩:=hs.cons_inv;obtain⟨d3,ds,rfl,h3,hs⟩:=hs.cons_inv;obtain⟨d4,ds,rfl,h4,hs⟩:=hs.cons_inv;obtain⟨d5,ds,rfl,h5,hs⟩:=hs.cons_inv;obtain rfl:=hs.nil_inv;obtain⟨n0,rfl⟩:=str_inv h0;obtain⟨n1,rfl,b1⟩:=h1.i64_inv;obtain⟨n2,rfl,b2⟩:=h2.i64_inv;obtain⟨n3,rfl,b3,c3⟩:=h3.ints_inv;obtain⟨n4,rfl,b4,c4⟩:=h4.ints_inv;obtain⟨n5,rfl,b5,c5⟩:=h5.ints_inv;exact⟨⟨n0,n1,n2,n3,n4,n5⟩,rfl,⟨b1,b2,⟨b3,c3⟩,⟨b4,c4⟩,⟨b5,c5⟩⟩⟩
theorem ao8 {d:D}(h:DTy (.slice WB) d):∃l:List City,d=lj l∧l.length≤maxLen∧∀y,y∈l→City.OK y:=by
 obtain⟨xs,rfl,hm,hx⟩:=h.slice_inv;obtain⟨l,rfl,hl⟩:=jL (enc:=fy) (P:=City.OK) fun x hh=>ao7 (hx x hh);exact⟨l,rfl,by simpa using hm,hl⟩
structure Firm where
 name:ByteArray
 city:Int
 group:Int
 deriving Inhabited
def qM (x:Firm):D:=.agg [str x.name,.int x.city,.int x.group]
@[simp] theorem aIx (x:Firm):(qM x).cells=[str x.name,.int x.city,.int x.group]:=_root_.id rfl
@[simp] theorem aM7 (x:Firm):D.agg [str x.name,.int x.city,.int x.group]=qM x:=_root_.id rfl
@[simp] theorem aIu (x:Firm):(qM x).c 0=str x.name:=_root_.id rfl
@[simp] theorem aIv (x:Firm):(qM x).c 1=.int x.city:=_root_.id rfl
@[simp] theorem aIw (x:Firm):(qM x).c 2=.int x.group:=_root_.id rfl
def firms (l:List Firm):D:=.list (l.map qM)
@[simp] theorem aLL (l:List Firm):(firms l).l=l.map qM:=_root_.id rfl
abbrev WD:Ty:=.agg [.str,.int .i64,.int .i64]
def Firm.OK (x:Firm):Prop:=aX x.city∧aX x.group
theorem aq0 {d:D}(h:DTy WD d):∃x:Firm,d=qM x∧x.OK:=by
 obtain⟨ds,rfl,hs⟩:=h.agg_inv;obtain⟨d0,ds,rfl,h0,hs⟩:=hs.cons_inv;obtain⟨d1,ds,rfl,h1,hs⟩:=hs.cons_inv;obtain⟨d2,ds,rfl,h2,hs⟩:=hs.cons_inv;obtain rfl:=hs.nil_inv;obtain⟨n0,rfl⟩:=str_inv h0;obtain⟨n1,rfl,b1⟩:=h1.i64_inv;obtain⟨n2,rfl,b2⟩:=h2.i64_inv;exact⟨⟨n0,n1,n2⟩,rfl,⟨b1,b2⟩⟩
theorem aq1 {d:D}(h:DTy (.slice WD) d):∃l:List Firm,d=firms l∧l.length≤maxLen∧∀y,y∈l→Firm.OK y:=by
 obtain⟨xs,rfl,hm,hx⟩:=h.slice_inv;obtain⟨l,rfl,hl⟩:=jL (enc:=qM) (P:=Firm.OK) fun x hh=>aq0 (hx x hh);exact⟨l,rfl,by simpa using hm,hl⟩
structure Group where
 grade:Int
 deriving DecidableEq,Inhabited
def ug (x:Group):D:=.agg [.int x.grade]
@[simp] theorem aIA (x:Group):(ug x).cells=[.int x.grade]:=_root_.id rfl
@[simp] theorem aM8 (x:Group):D.agg [.int x.grade]=ug x:=_root_.id rfl
@[simp] theorem aIz (x:Group):(ug x).c 0=.int x.grade:=_root_.id rfl
def groups (l:List Group):D:=.list (l.map ug)
@[simp] theorem aLV (l:List Group):(groups l).l=l.map ug:=_root_.id rfl
abbrev WE:Ty:=.agg [.int .i64]
def Group.OK (x:Group):Prop:=aX x.grade
theorem auA {d:D}(h:DTy WE d):∃x:Group,d=ug x∧x.OK:=by
 obtain⟨ds,rfl,hs⟩:=h.agg_inv;obtain⟨d0,ds,rfl,h0,hs⟩:=hs.cons_inv;obtain rfl:=hs.nil_inv;obtain⟨n0,rfl,b0⟩:=h0.i64_inv;exact⟨⟨n0⟩,rfl,b0⟩
theorem auB {d:D}(h:DTy (.slice WE) d):∃l:List Group,d=groups l∧l.length≤maxLen∧∀y,y∈l→Group.OK y:=by
 obtain⟨xs,rfl,hm,hx⟩:=h.slice_inv;obtain⟨l,rfl,hl⟩:=jL (enc:=ug) (P:=Group.OK) fun x hh=>auA (hx x hh);exact⟨l,rfl,by simpa using hm,hl⟩
structure Usance where
 fr:Int
 to:Int
 days:Int
 deriving DecidableEq,Inhabited
def qQ (x:Usance):D:=.agg [.int x.fr,.int x.to,.int x.days]
@[simp] theorem aJI (x:Usance):(qQ x).cells=[.int x.fr,.int x.to,.int x.days]:=_root_.id rfl
@[simp] theorem aNj (x:Usance):D.agg [.int x.fr,.int x.to,.int x.days]=qQ x:=_root_.id rfl
@[simp] theorem aJF (x:Usance):(qQ x).c 0=.int x.fr:=_root_.id rfl
@[simp] theorem aJG (x:Usance):(qQ x).c 1=.int x.to:=_root_.id rfl
@[simp] theorem aJH (x:Usance):(qQ x).c 2=.int x.days:=_root_.id rfl
def usances (l:List Usance):D:=.list (l.map qQ)
@[simp] theorem aOB (l:List Usance):(usances l).l=l.map qQ:=_root_.id rfl
abbrev WL:Ty:=.agg [.int .i64,.int .i64,.int .i64]
def Usance.OK (x:Usance):Prop:=aX x.fr∧aX x.to∧aX x.days
theorem aGp {d:D}(h:DTy WL d):∃x:Usance,d=qQ x∧x.OK:=by
 obtain⟨ds,rfl,hs⟩:=h.agg_inv;obtain⟨d0,ds,rfl,h0,hs⟩:=hs.cons_inv;obtain⟨d1,ds,rfl,h1,hs⟩:=hs.cons_inv;obtain⟨d2,ds,rfl,h2,hs⟩:=hs.cons_inv;obtain rfl:=hs.nil_inv;obtain⟨n0,rfl,b0⟩:=h0.i64_inv;obtain⟨n1,rfl,b1⟩:=h1.i64_inv;obtain⟨n2,rfl,b2⟩:=h2.i64_inv;exact⟨⟨n0,n1,n2⟩,rfl,⟨b0,b1,b2⟩⟩
theorem aGq {d:D}(h:DTy (.slice WL) d):∃l:List Usance,d=usances l∧l.length≤maxLen∧∀y,y∈l→Usance.OK y:=by
 obtain⟨xs,rfl,hm,hx⟩:=h.slice_inv;obtain⟨l,rfl,hl⟩:=jL (enc:=qQ) (P:=Usance.OK) fun x hh=>aGp (hx x hh);exact⟨l,rfl,by simpa using hm,hl⟩
structure Rate where
 fr:Int
 to:Int
 num:Int
 den:Int
 since:Int
 deriving DecidableEq,Inhabited
def oa (x:Rate):D:=.agg [.int x.fr,.int x.to,.int x.num,.int x.den,.int x.since]
@[simp] theorem aIZ (x:Rate):(oa x).cells=[.int x.fr,.int x.to,.int x.num,.int x.den,.int x.since]:=_root_.id rfl
@[simp] theorem aNc (x:Rate):D.agg [.int x.fr,.int x.to,.int x.num,.int x.den,.int x.since]=oa x:=_root_.id rfl
@[simp] theorem aIU (x:Rate):(oa x).c 0=.int x.fr:=_root_.id rfl
@[simp] theorem aIV (x:Rate):(oa x).c 1=.int x.to:=_root_.id rfl
@[simp] theorem aIW (x:Rate):(oa x).c 2=.int x.num:=_root_.id rfl
@[simp] theorem aIX (x:Rate):(oa x).c 3=.int x.den:=_root_.id rfl
@[simp] theorem aIY (x:Rate):(oa x).c 4=.int x.since:=_root_.id rfl
def rates (l:List Rate):D:=.list (l.map oa)
@[simp] theorem aNP (l:List Rate):(rates l).l=l.map oa:=_root_.id rfl
abbrev WI:Ty:=.agg [.int .i64,.int .i64,.int .i64,.int .i64,.int .i64]
def Rate.OK (x:Rate):Prop:=aX x.fr∧aX x.to∧aX x.num∧aX x.den∧aX x.since
theorem aB2 {d:D}(h:DTy WI d):∃x:Rate,d=oa x∧x.OK:=by
 obtain⟨ds,rfl,hs⟩:=h.agg_inv;obtain⟨d0,ds,rfl,h0,hs⟩:=hs.cons_inv;obtain⟨d1,ds,rfl,h1,hs⟩:=hs.cons_inv;obtain⟨d2,ds,rfl,h2,hs⟩:=hs.cons_inv;obtain⟨d3,ds,rfl,h3,hs⟩:=hs.cons_inv;obtain⟨d4,ds,rfl,h4,hs⟩:=hs.cons_inv;obtain rfl:=hs.nil_inv;obtain⟨n0,rfl,b0⟩:=h0.i64_inv;obtain⟨n1,rfl,b1⟩:=h1.i64_inv;obtain⟨n2,rfl,b2⟩:=h2.i64_inv;obtain⟨n3,rfl,b3⟩:=h3.i64_inv;obtain⟨n4,rfl,b4⟩:=h4.i64_inv;exact⟨⟨n0,n1,n2,n3,n4⟩,rfl,⟨b0,b1,b2,b3,b4⟩⟩
theorem aB3 {d:D}(h:DTy (.slice WI) d):∃l:List Rate,d=rates l∧l.length≤maxLen∧∀y,y∈l→Rate.OK y:=by
 obtain⟨xs,rfl,hm,hx⟩:=h.slice_inv;obtain⟨l,rfl,hl⟩:=jL (enc:=oa) (P:=Rate.OK) fun x hh=>aB2 (hx x hh);exact⟨l,rfl,by simpa using hm,hl⟩
structure Halt where
 order:Int
 fr:Int
 to:Int
 deriving DecidableEq,Inhabited
def qN (x:Halt):D:=.agg [.int x.order,.int x.fr,.int x.to]
@[simp] theorem aIE (x:Halt):(qN x).cells=[.int x.order,.int x.fr,.int x.to]:=_root_.id rfl
@[simp] theorem aM9 (x:Halt):D.agg [.int x.order,.int x.fr,.int x.to]=qN x:=_root_.id rfl
@[simp] theorem aIB (x:Halt):(qN x).c 0=.int x.order:=_root_.id rfl
@[simp] theorem aIC (x:Halt):(qN x).c 1=.int x.fr:=_root_.id rfl
@[simp] theorem aID (x:Halt):(qN x).c 2=.int x.to:=_root_.id rfl
def halts (l:List Halt):D:=.list (l.map qN)
@[simp] theorem aL4 (l:List Halt):(halts l).l=l.map qN:=_root_.id rfl
abbrev WG:Ty:=.agg [.int .i64,.int .i64,.int .i64]
def Halt.OK (x:Halt):Prop:=aX x.order∧aX x.fr∧aX x.to
theorem au3 {d:D}(h:DTy WG d):∃x:Halt,d=qN x∧x.OK:=by
 obtain⟨ds,rfl,hs⟩:=h.agg_inv;obtain⟨d0,ds,rfl,h0,hs⟩:=hs.cons_inv;obtain⟨d1,ds,rfl,h1,hs⟩:=hs.cons_inv;obtain⟨d2,ds,rfl,h2,hs⟩:=hs.cons_inv;obtain rfl:=hs.nil_inv;obtain⟨n0,rfl,b0⟩:=h0.i64_inv;obtain⟨n1,rfl,b1⟩:=h1.i64_inv;obtain⟨n2,rfl,b2⟩:=h2.i64_inv;exact⟨⟨n0,n1,n2⟩,rfl,⟨b0,b1,b2⟩⟩
theorem au4 {d:D}(h:DTy (.slice WG) d):∃l:List Halt,d=halts l∧l.length≤maxLen∧∀y,y∈l→Halt.OK y:=by
 obtain⟨xs,rfl,hm,hx⟩:=h.slice_inv;obtain⟨l,rfl,hl⟩:=jL (enc:=qN) (P:=Halt.OK) fun x hh=>au3 (hx x hh);exact⟨l,rfl,by simpa using hm,hl⟩
structure Choice where
 ask:Int
 by_:Int
 whole:Bool
 deriving DecidableEq,Inhabited
def sf (x:Choice):D:=.agg [.int x.ask,.int x.by_,.bool x.whole]
@[simp] theorem aHK (x:Choice):(sf x).cells=[.int x.ask,.int x.by_,.bool x.whole]:=_root_.id rfl
@[simp] theorem aM2 (x:Choice):D.agg [.int x.ask,.int x.by_,.bool x.whole]=sf x:=_root_.id rfl
@[simp] theorem aHI (x:Choice):(sf x).c 0=.int x.ask:=_root_.id rfl
@[simp] theorem aHJ (x:Choice):(sf x).c 1=.int x.by_:=_root_.id rfl
def choices (l:List Choice):D:=.list (l.map sf)
@[simp] theorem aKp (l:List Choice):(choices l).l=l.map sf:=_root_.id rfl
abbrev WA:Ty:=.agg [.int .i64,.int .i64,.bool]
def Choice.OK (x:Choice):Prop:=aX x.ask∧aX x.by_
theorem ao4 {d:D}(h:DTy WA d):∃x:Choice,d=sf x∧x.OK:=by
 obtain⟨ds,rfl,hs⟩:=h.agg_inv;obtain⟨d0,ds,rfl,h0,hs⟩:=hs.cons_inv;obtain⟨d1,ds,rfl,h1,hs⟩:=hs.cons_inv;obtain⟨d2,ds,rfl,h2,hs⟩:=hs.cons_inv;obtain rfl:=hs.nil_inv;obtain⟨n0,rfl,b0⟩:=h0.i64_inv;obtain⟨n1,rfl,b1⟩:=h1.i64_inv;obtain⟨n2,rfl⟩:=h2.bool_inv;exact⟨⟨n0,n1,n2⟩,rfl,⟨b0,b1⟩⟩
theorem ao5 {d:D}(h:DTy (.slice WA) d):∃l:List Choice,d=choices l∧l.length≤maxLen∧∀y,y∈l→Choice.OK y:=by
 obtain⟨xs,rfl,hm,hx⟩:=h.slice_inv;obtain⟨l,rfl,hl⟩:=jL (enc:=sf) (P:=Choice.OK) fun x hh=>ao4 (hx x hh);exact⟨l,rfl,by simpa using hm,hl⟩
structure Rule where
 ask:Int
 term:Tm
 deriving Inhabited
def qO (x:Rule):D:=.agg [.int x.ask,.int x.term.op,.int x.term.n,.list (x.term.args.map dx)]
@[simp] theorem aJb (x:Rule):(qO x).cells=[.int x.ask,.int x.term.op,.int x.term.n,.list (x.term.args.map dx)]:=_root_.id rfl
@[simp] theorem aNe (x:Rule):D.agg [.int x.ask,.int x.term.op,.int x.term.n,.list (x.term.args.map dx)]=qO x:=_root_.id rfl
@[simp] theorem aJa (x:Rule):(qO x).c 0=.int x.ask:=_root_.id rfl
def rules (l:List Rule):D:=.list (l.map qO)
@[simp] theorem aNX (l:List Rule):(rules l).l=l.map qO:=_root_.id rfl
abbrev WJ:Ty:=.agg [.int .i64,.int .i64,.int .i64,.slice .trm]
def Rule.OK (x:Rule):Prop:=aX x.ask∧Tm.OK x.term
theorem aCG {d:D}(h:DTy WJ d):∃x:Rule,d=qO x∧x.OK:=by
 obtain⟨ds,rfl,hs⟩:=h.agg_inv;obtain⟨d0,ds,rfl,h0,hs⟩:=hs.cons_inv;obtain⟨d1,ds,rfl,h1,hs⟩:=hs.cons_inv;obtain⟨d2,ds,rfl,h2,hs⟩:=hs.cons_inv;obtain⟨d3,ds,rfl,h3,hs⟩:=hs.cons_inv;obtain rfl:=hs.nil_inv;obtain⟨n0,rfl,b0⟩:=h0.i64_inv;obtain⟨n1,rfl,b1⟩:=h1.i64_inv;obtain⟨n2,rfl,b2⟩:=h2.i64_inv;obtain⟨n3,rfl,b3,c3⟩:=h3.trms_inv;exact⟨⟨n0,.mk n1 n2 n3⟩,rfl,⟨b0,.mk _ _ _ b1 b2 b3 c3⟩⟩
theorem aCH {d:D}(h:DTy (.slice WJ) d):∃l:List Rule,d=rules l∧l.length≤maxLen∧∀y,y∈l→Rule.OK y:=by
 obtain⟨xs,rfl,hm,hx⟩:=h.slice_inv;obtain⟨l,rfl,hl⟩:=jL (enc:=qO) (P:=Rule.OK) fun x hh=>aCG (hx x hh);exact⟨l,rfl,by simpa using hm,hl⟩
structure Order where
 name:ByteArray
 accepts:Bool
 choices:List Choice
 rules:List Rule
 deriving Inhabited
def iY (x:Order):D:=.agg [str x.name,.bool x.accepts,choices x.choices,rules x.rules]
@[simp] theorem aIR (x:Order):(iY x).cells=[str x.name,.bool x.accepts,choices x.choices,rules x.rules]:=_root_.id rfl
@[simp] theorem aNb (x:Order):D.agg [str x.name,.bool x.accepts,choices x.choices,rules x.rules]=iY x:=_root_.id rfl
@[simp] theorem aJX (x:Order):gi 4 (iY x)=iY x:=_root_.id rfl
@[simp] theorem aIN (x:Order):(iY x).c 0=str x.name:=_root_.id rfl
@[simp] theorem aIO (x:Order):(iY x).c 1=.bool x.accepts:=_root_.id rfl
@[simp] theorem aIP (x:Order):(iY x).c 2=choices x.choices:=_root_.id rfl
@[simp] theorem aIQ (x:Order):(iY x).c 3=rules x.rules:=_root_.id rfl
def orders (l:List Order):D:=.list (l.map iY)
@[simp] theorem aNs (l:List Order):(orders l).l=l.map iY:=_root_.id rfl
abbrev WH:Ty:=.agg [.str,.bool,.slice WA,.slice WJ]
def Order.OK (x:Order):Prop:=(x.choices.length≤maxLen∧∀y,y∈x.choices→Choice.OK y)∧(x.rules.length≤maxLen∧∀y,y∈x.rules→Rule.OK y)
theorem aA2 {d:D}(h:DTy WH d):∃x:Order,d=iY x∧x.OK:=by
 obtain⟨ds,rfl,hs⟩:=h.agg_inv;obtain⟨d0,ds,rfl,h0,hs⟩:=hs.cons_inv;obtain⟨d1,ds,rfl,h1,hs⟩:=hs.cons_inv;obtain⟨d2,ds,rfl,h2,hs⟩:=hs.cons_inv;obtain⟨d3,ds,rfl,h3,hs⟩:=hs.cons_inv;obtain rfl:=hs.nil_inv;obtain⟨n0,rfl⟩:=str_inv h0;obtain⟨n1,rfl⟩:=h1.bool_inv;obtain⟨n2,rfl,b2,c2⟩:=ao5 h2;obtain⟨n3,rfl,b3,c3⟩:=aCH h3;exact⟨⟨n0,n1,n2,n3⟩,rfl,⟨⟨b2,c2⟩,⟨b3,c3⟩⟩⟩
theorem aA3 {d:D}(h:DTy (.slice WH) d):∃l:List Order,d=orders l∧l.length≤maxLen∧∀y,y∈l→Order.OK y:=by
 obtain⟨xs,rfl,hm,hx⟩:=h.slice_inv;obtain⟨l,rfl,hl⟩:=jL (enc:=iY) (P:=Order.OK) fun x hh=>aA2 (hx x hh);exact⟨l,rfl,by simpa using hm,hl⟩
structure Realm where
 currencies:List ByteArray
 cities:List City
 groups:List Group
 firms:List Firm
 orders:List Order
 usances:List Usance
 rates:List Rate
 halts:List Halt
 deriving Inhabited
def bf (x:Realm):D:=.agg [strs x.currencies,lj x.cities,groups x.groups,firms x.firms,orders x.orders,usances x.usances,rates x.rates,halts x.halts]
@[simp] theorem aI8 (x:Realm):(bf x).cells=[strs x.currencies,lj x.cities,groups x.groups,firms x.firms,orders x.orders,usances x.usances,rates x.rates,halts x.halts]:=_root_.id rfl
@[simp] theorem aNd (x:Realm):D.agg [strs x.currencies,lj x.cities,groups x.groups,firms x.firms,orders x.orders,usances x.usances,rates x.rates,halts x.halts]=bf x:=_root_.id rfl
@[simp] theorem aJY (x:Realm):gi 8 (bf x)=bf x:=_root_.id rfl
@[simp] theorem aNA (x:Realm)(a0 a1 a2 a3 a4 a5 a6 a7:D):D.agg (db [a0,a1,a2,a3,a4,a5,a6,a7] 0 [strs x.currencies,lj x.cities,groups x.groups,firms x.firms,orders x.orders,usances x.usances,rates x.rates,halts x.halts])=bf x:=_root_.id rfl
@[simp] theorem aI0 (x:Realm):(bf x).c 0=strs x.currencies:=_root_.id rfl
@[simp] theorem aI1 (x:Realm):(bf x).c 1=lj x.cities:=_root_.id rfl
@[simp] theorem aI2 (x:Realm):(bf x).c 2=groups x.groups:=_root_.id rfl
@[simp] theorem aI3 (x:Realm):(bf x).c 3=firms x.firms:=_root_.id rfl
@[simp] theorem aI4 (x:Realm):(bf x).c 4=orders x.orders:=_root_.id rfl
@[simp] theorem aI5 (x:Realm):(bf x).c 5=usances x.usances:=_root_.id rfl
@[simp] theorem aI6 (x:Realm):(bf x).c 6=rates x.rates:=_root_.id rfl
@[simp] theorem aI7 (x:Realm):(bf x).c 7=halts x.halts:=_root_.id rfl
abbrev aGi:Ty:=.agg [.slice .str,.slice WB,.slice WE,.slice WD,.slice WH,.slice WL,.slice WI,.slice WG]
def Realm.OK (x:Realm):Prop:=x.currencies.length≤maxLen∧(x.cities.length≤maxLen∧∀y,y∈x.cities→City.OK y)∧(x.groups.length≤maxLen∧∀y,y∈x.groups→Group.OK y)∧(x.firms.length≤maxLen∧∀y,y∈x.firms→Firm.OK y)∧(x.orders.length≤maxLen∧∀y,y∈x.orders→Order.OK y)∧(x.usances.length≤maxLen∧∀y,y∈x.usances→Usance.OK y)∧(x.rates.length≤maxLen∧∀y,y∈x.rates→Rate.OK y)∧(x.halts.length≤maxLen∧∀y,y∈x.halts→Halt.OK y)
theorem ag1 {d:D}(h:DTy aGi d):∃x:Realm,d=bf x∧x.OK:=by
 obtain⟨ds,rfl,hs⟩:=h.agg_inv;obtain⟨d0,ds,rfl,h0,hs⟩:=hs.cons_inv;obtain⟨d1,ds,rfl,h1,hs⟩:=hs.cons_inv;obtain⟨d2,ds,rfl,h2,hs⟩:=hs.cons_inv;obtain⟨d3,ds,rfl,h3,hs⟩:=hs.cons_inv;obtain⟨d4,ds,rfl,h4,hs⟩:=hs.cons_inv;obtain⟨d5,ds,rfl,h5,hs⟩:=hs.cons_inv;obtain⟨d6,ds,rfl,h6,hs⟩:=hs.cons_inv;obtain⟨d7,ds,rfl,h7,hs⟩:=hs.cons_inv;obtain rfl:=hs.nil_inv;obtain⟨n0,rfl,b0⟩:=aDa h0;obtain⟨n1,rfl,b1,c1⟩:=ao8 h1;obtain⟨n2,rfl,b2,c2⟩:=auB h2;obtain⟨n3,rfl,b3,c3⟩:=aq1 h3;obtain⟨n4,rfl,b4,c4⟩:=aA3 h4;obtain⟨n5,rfl,b5,c5⟩:=aGq h5;obtain⟨n6,rfl,b6,c6⟩:=aB3 h6;obtain⟨n7,rfl,b7,c7⟩:=au4 h7;exact⟨⟨n0,n1,n2,n3,n4,n5,n6,n7⟩,rfl,⟨b0,⟨b1,c1⟩,⟨b2,c2⟩,⟨b3,c3⟩,⟨b4,c4⟩,⟨b5,c5⟩,⟨b6,c6⟩,⟨b7,c7⟩⟩⟩
structure Tenor where
 kind:Int
 n:Int
 unit:Int
 deriving DecidableEq,Inhabited
def qP (x:Tenor):D:=.agg [.int x.kind,.int x.n,.int x.unit]
@[simp] theorem aJC (x:Tenor):(qP x).cells=[.int x.kind,.int x.n,.int x.unit]:=_root_.id rfl
@[simp] theorem aNi (x:Tenor):D.agg [.int x.kind,.int x.n,.int x.unit]=qP x:=_root_.id rfl
@[simp] theorem aJz (x:Tenor):(qP x).c 0=.int x.kind:=_root_.id rfl
@[simp] theorem aJA (x:Tenor):(qP x).c 1=.int x.n:=_root_.id rfl
@[simp] theorem aJB (x:Tenor):(qP x).c 2=.int x.unit:=_root_.id rfl
def Tenor.OK (x:Tenor):Prop:=aX x.kind∧aX x.n∧aX x.unit
structure Bill where
 drawer:Int
 drawee:Int
 payee:Int
 sum:Int
 currency:Int
 tenor:Tenor
 day:Int
 city:Int
 pay:Int
 need:Int
 rate:Int
 flags:Int
 parts:Int
 deriving DecidableEq,Inhabited
def dH (x:Bill):D:=.agg [.int x.drawer,.int x.drawee,.int x.payee,.int x.sum,.int x.currency,.int x.tenor.kind,.int x.tenor.n,.int x.tenor.unit,.int x.day,.int x.city,.int x.pay,.int x.need,.int x.rate,.int x.flags,.int x.parts]
@[simp] theorem aHs (x:Bill):(dH x).cells=[.int x.drawer,.int x.drawee,.int x.payee,.int x.sum,.int x.currency,.int x.tenor.kind,.int x.tenor.n,.int x.tenor.unit,.int x.day,.int x.city,.int x.pay,.int x.need,.int x.rate,.int x.flags,.int x.parts]:=_root_.id rfl
@[simp] theorem aMZ (x:Bill):D.agg [.int x.drawer,.int x.drawee,.int x.payee,.int x.sum,.int x.currency,.int x.tenor.kind,.int x.tenor.n,.int x.tenor.unit,.int x.day,.int x.city,.int x.pay,.int x.need,.int x.rate,.int x.flags,.int x.parts]=dH x:=_root_.id rfl
@[simp] theorem aJS (x:Bill):gi 15 (dH x)=dH x:=_root_.id rfl
@[simp] theorem aNu (x:Bill)(a0 a1 a2 a3 a4 a5 a6 a7 a8 a9 iS iT iU iV iW:D):D.agg (db [a0,a1,a2,a3,a4,a5,a6,a7,a8,a9,iS,iT,iU,iV,iW] 0 [.int x.drawer,.int x.drawee,.int x.payee,.int x.sum,.int x.currency,.int x.tenor.kind,.int x.tenor.n,.int x.tenor.unit,.int x.day,.int x.city,.int x.pay,.int x.need,.int x.rate,.int x.flags,.int x.parts])=dH x:=_root_.id rfl
@[simp] theorem aHd (x:Bill):(dH x).c 0=.int x.drawer:=_root_.id rfl
@[simp] theorem aHe (x:Bill):(dH x).c 1=.int x.drawee:=_root_.id rfl
@[simp] theorem aHk (x:Bill):(dH x).c 2=.int x.payee:=_root_.id rfl
@[simp] theorem aHl (x:Bill):(dH x).c 3=.int x.sum:=_root_.id rfl
@[simp] theorem aHm (x:Bill):(dH x).c 4=.int x.currency:=_root_.id rfl
@[simp] theorem aHn (x:Bill):(dH x).c 5=.int x.tenor.kind:=_root_.id rfl
@[simp] theorem aHo (x:Bill):(dH x).c 6=.int x.tenor.n:=_root_.id rfl
@[simp] theorem aHp (x:Bill):(dH x).c 7=.int x.tenor.unit:=_root_.id rfl
@[simp] theorem aHq (x:Bill):(dH x).c 8=.int x.day:=_root_.id rfl
@[simp] theorem aHr (x:Bill):(dH x).c 9=.int x.city:=_root_.id rfl
@[simp] theorem aHf (x:Bill):(dH x).c 10=.int x.pay:=_root_.id rfl
@[simp] theorem aHg (x:Bill):(dH x).c 11=.int x.need:=_root_.id rfl
@[simp] theorem aHh (x:Bill):(dH x).c 12=.int x.rate:=_root_.id rfl
@[simp] theorem aHi (x:Bill):(dH x).c 13=.int x.flags:=_root_.id rfl
@[simp] theorem aHj (x:Bill):(dH x).c 14=.int x.parts:=_root_.id rfl
def Bill.OK (x:Bill):Prop:=aX x.drawer∧aX x.drawee∧aX x.payee∧aX x.sum∧aX x.currency∧Tenor.OK x.tenor∧aX x.day∧aX x.city∧aX x.pay∧aX x.need∧aX x.rate∧aX x.flags∧aX x.parts
structure Sign where
 kind:Int
 part:Int
 who:Int
 for_:Int
 to:Int
 sum:Int
 day:Int
 city:Int
 flags:Int
 deriving DecidableEq,Inhabited
def jy (x:Sign):D:=.agg [.int x.kind,.int x.part,.int x.who,.int x.for_,.int x.to,.int x.sum,.int x.day,.int x.city,.int x.flags]
@[simp] theorem aJq (x:Sign):(jy x).cells=[.int x.kind,.int x.part,.int x.who,.int x.for_,.int x.to,.int x.sum,.int x.day,.int x.city,.int x.flags]:=_root_.id rfl
@[simp] theorem aNh (x:Sign):D.agg [.int x.kind,.int x.part,.int x.who,.int x.for_,.int x.to,.int x.sum,.int x.day,.int x.city,.int x.flags]=jy x:=_root_.id rfl
@[simp] theorem aJ0 (x:Sign):gi 9 (jy x)=jy x:=_root_.id rfl
@[simp] theorem aJh (x:Sign):(jy x).c 0=.int x.kind:=_root_.id rfl
@[simp] theorem aJi (x:Sign):(jy x).c 1=.int x.part:=_root_.id rfl
@[simp] theorem aJj (x:Sign):(jy x).c 2=.int x.who:=_root_.id rfl
@[simp] theorem aJk (x:Sign):(jy x).c 3=.int x.for_:=_root_.id rfl
@[simp] theorem aJl (x:Sign):(jy x).c 4=.int x.to:=_root_.id rfl
@[simp] theorem aJm (x:Sign):(jy x).c 5=.int x.sum:=_root_.id rfl
@[simp] theorem aJn (x:Sign):(jy x).c 6=.int x.day:=_root_.id rfl
@[simp] theorem aJo (x:Sign):(jy x).c 7=.int x.city:=_root_.id rfl
@[simp] theorem aJp (x:Sign):(jy x).c 8=.int x.flags:=_root_.id rfl
def signs (l:List Sign):D:=.list (l.map jy)
@[simp] theorem aOb (l:List Sign):(signs l).l=l.map jy:=_root_.id rfl
@[simp] theorem aOa (l:List Sign):(signs l).cells=[signs l]:=_root_.id rfl
abbrev WK:Ty:=.agg [.int .i64,.int .i64,.int .i64,.int .i64,.int .i64,.int .i64,.int .i64,.int .i64,.int .i64]
def Sign.OK (x:Sign):Prop:=aX x.kind∧aX x.part∧aX x.who∧aX x.for_∧aX x.to∧aX x.sum∧aX x.day∧aX x.city∧aX x.flags
theorem aC0 {d:D}(h:DTy WK d):∃x:Sign,d=jy x∧x.OK:=by
 obtain⟨ds,rfl,hs⟩:=h.agg_inv;obtain⟨d0,ds,rfl,h0,hs⟩:=hs.cons_inv;obtain⟨d1,ds,rfl,h1,hs⟩:=hs.cons_inv;obtain⟨d2,ds,rfl,h2,hs⟩:=hs.cons_inv;obtain⟨d3,ds,rfl,h3,hs⟩:=hs.cons_inv;obtain⟨d4,ds,rfl,h4,hs⟩:=hs.cons_inv;obtain⟨d5,ds,rfl,h5,hs⟩:=hs.cons_inv;obtain⟨d6,ds,rfl,h6,hs⟩:=hs.cons_inv;obtain⟨d7,ds,rfl,h7,hs⟩:=hs.cons_inv;obtain⟨d8,ds,rfl,h8,hs⟩:=hs.cons_inv;obtain rfl:=hs.nil_inv;obtain⟨n0,rfl,b0⟩:=h0.i64_inv;obtain⟨n1,rfl,b1⟩:=h1.i64_inv;obtain⟨n2,rfl,b2⟩:=h2.i64_inv;obtain⟨n3,rfl,b3⟩:=h3.i64_inv;obtain⟨n4,rfl,b4⟩:=h4.i64_inv;obtain⟨n5,rfl,b5⟩:=h5.i64_inv;obtain⟨n6,rfl,b6⟩:=h6.i64_inv;obtain⟨n7,rfl,b7⟩:=h7.i64_inv;obtain⟨n8,rfl,b8⟩:=h8.i64_inv;exact⟨⟨n0,n1,n2,n3,n4,n5,n6,n7,n8⟩,rfl,⟨b0,b1,b2,b3,b4,b5,b6,b7,b8⟩⟩
theorem aC1 {d:D}(h:DTy (.slice WK) d):∃l:List Sign,d=signs l∧l.length≤maxLen∧∀y,y∈l→Sign.OK y:=by
 obtain⟨xs,rfl,hm,hx⟩:=h.slice_inv;obtain⟨l,rfl,hl⟩:=jL (enc:=jy) (P:=Sign.OK) fun x hh=>aC0 (hx x hh);exact⟨l,rfl,by simpa using hm,hl⟩
structure Alter where
 at_:Int
 sum:Int
 deriving DecidableEq,Inhabited
def nY (x:Alter):D:=.agg [.int x.at_,.int x.sum]
@[simp] theorem aHb (x:Alter):(nY x).cells=[.int x.at_,.int x.sum]:=_root_.id rfl
@[simp] theorem aMY (x:Alter):D.agg [.int x.at_,.int x.sum]=nY x:=_root_.id rfl
@[simp] theorem aG9 (x:Alter):(nY x).c 0=.int x.at_:=_root_.id rfl
@[simp] theorem aHa (x:Alter):(nY x).c 1=.int x.sum:=_root_.id rfl
def alters (l:List Alter):D:=.list (l.map nY)
@[simp] theorem aJ3 (l:List Alter):(alters l).l=l.map nY:=_root_.id rfl
@[simp] theorem aJ2 (l:List Alter):(alters l).cells=[alters l]:=_root_.id rfl
abbrev Wz:Ty:=.agg [.int .i64,.int .i64]
def Alter.OK (x:Alter):Prop:=aX x.at_∧aX x.sum
theorem aiX {d:D}(h:DTy Wz d):∃x:Alter,d=nY x∧x.OK:=by
 obtain⟨ds,rfl,hs⟩:=h.agg_inv;obtain⟨d0,ds,rfl,h0,hs⟩:=hs.cons_inv;obtain⟨d1,ds,rfl,h1,hs⟩:=hs.cons_inv;obtain rfl:=hs.nil_inv;obtain⟨n0,rfl,b0⟩:=h0.i64_inv;obtain⟨n1,rfl,b1⟩:=h1.i64_inv;exact⟨⟨n0,n1⟩,rfl,⟨b0,b1⟩⟩
theorem aiY {d:D}(h:DTy (.slice Wz) d):∃l:List Alter,d=alters l∧l.length≤maxLen∧∀y,y∈l→Alter.OK y:=by
 obtain⟨xs,rfl,hm,hx⟩:=h.slice_inv;obtain⟨l,rfl,hl⟩:=jL (enc:=nY) (P:=Alter.OK) fun x hh=>aiX (hx x hh);exact⟨l,rfl,by simpa using hm,hl⟩
structure Act where
 kind:Int
 who:Int
 to:Int
 part:Int
 at_:Int
 sum:Int
 day:Int
 city:Int
 form:Int
 deriving DecidableEq,Inhabited
def iX (x:Act):D:=.agg [.int x.kind,.int x.who,.int x.to,.int x.part,.int x.at_,.int x.sum,.int x.day,.int x.city,.int x.form]
@[simp] theorem aG7 (x:Act):(iX x).cells=[.int x.kind,.int x.who,.int x.to,.int x.part,.int x.at_,.int x.sum,.int x.day,.int x.city,.int x.form]:=_root_.id rfl
@[simp] theorem aMX (x:Act):D.agg [.int x.kind,.int x.who,.int x.to,.int x.part,.int x.at_,.int x.sum,.int x.day,.int x.city,.int x.form]=iX x:=_root_.id rfl
@[simp] theorem aJR (x:Act):gi 9 (iX x)=iX x:=_root_.id rfl
@[simp] theorem aGY (x:Act):(iX x).c 0=.int x.kind:=_root_.id rfl
@[simp] theorem aGZ (x:Act):(iX x).c 1=.int x.who:=_root_.id rfl
@[simp] theorem aG0 (x:Act):(iX x).c 2=.int x.to:=_root_.id rfl
@[simp] theorem aG1 (x:Act):(iX x).c 3=.int x.part:=_root_.id rfl
@[simp] theorem aG2 (x:Act):(iX x).c 4=.int x.at_:=_root_.id rfl
@[simp] theorem aG3 (x:Act):(iX x).c 5=.int x.sum:=_root_.id rfl
@[simp] theorem aG4 (x:Act):(iX x).c 6=.int x.day:=_root_.id rfl
@[simp] theorem aG5 (x:Act):(iX x).c 7=.int x.city:=_root_.id rfl
@[simp] theorem aG6 (x:Act):(iX x).c 8=.int x.form:=_root_.id rfl
def acts (l:List Act):D:=.list (l.map iX)
@[simp] theorem aJL (l:List Act):(acts l).l=l.map iX:=_root_.id rfl
@[simp] theorem aJK (l:List Act):(acts l).cells=[acts l]:=_root_.id rfl
abbrev Wy:Ty:=.agg [.int .i64,.int .i64,.int .i64,.int .i64,.int .i64,.int .i64,.int .i64,.int .i64,.int .i64]
def Act.OK (x:Act):Prop:=aX x.kind∧aX x.who∧aX x.to∧aX x.part∧aX x.at_∧aX x.sum∧aX x.day∧aX x.city∧aX x.form
theorem aiM {d:D}(h:DTy Wy d):∃x:Act,d=iX x∧x.OK:=by
 obtain⟨ds,rfl,hs⟩:=h.agg_inv;obtain⟨d0,ds,rfl,h0,hs⟩:=hs.cons_inv;obtain⟨d1,ds,rfl,h1,hs⟩:=hs.cons_inv;obtain⟨d2,ds,rfl,h2,hs⟩:=hs.cons_inv;obtain⟨d3,ds,rfl,h3,hs⟩:=hs.cons_inv;obtain⟨d4,ds,rfl,h4,hs⟩:=hs.cons_inv;obtain⟨d5,ds,rfl,h5,hs⟩:=hs.cons_inv;obtain⟨d6,ds,rfl,h6,hs⟩:=hs.cons_inv;obtain⟨d7,ds,rfl,h7,hs⟩:=hs.cons_inv;obtain⟨d8,ds,rfl,h8,hs⟩:=hs.cons_inv;obtain rfl:=hs.nil_inv;obtain⟨n0,rfl,b0⟩:=h0.i64_inv;obtain⟨n1,rfl,b1⟩:=h1.i64_inv;obtain⟨n2,rfl,b2⟩:=h2.i64_inv;obtain⟨n3,rfl,b3⟩:=h3.i64_inv;obtain⟨n4,rfl,b4⟩:=h4.i64_inv;obtain⟨n5,rfl,b5⟩:=h5.i64_inv;obtain⟨n6,rfl,b6⟩:=h6.i64_inv;obtain⟨n7,rfl,b7⟩:=h7.i64_inv;obtain⟨n8,rfl,b8⟩:=h8.i64_inv;exact⟨⟨n0,n1,n2,n3,n4,n5,n6,n7,n8⟩,rfl,⟨b0,b1,b2,b3,b4,b5,b6,b7,b8⟩⟩
theorem aiN {d:D}(h:DTy (.slice Wy) d):∃l:List Act,d=acts l∧l.length≤maxLen∧∀y,y∈l→Act.OK y:=by
 obtain⟨xs,rfl,hm,hx⟩:=h.slice_inv;obtain⟨l,rfl,hl⟩:=jL (enc:=iX) (P:=Act.OK) fun x hh=>aiM (hx x hh);exact⟨l,rfl,by simpa using hm,hl⟩
structure Fact where
 kind:Int
 at_:Int
 n:Int
 deriving DecidableEq,Inhabited
def pD (x:Fact):D:=.agg [.int x.kind,.int x.at_,.int x.n]
@[simp] theorem aIl (x:Fact):(pD x).cells=[.int x.kind,.int x.at_,.int x.n]:=_root_.id rfl
@[simp] theorem aM5 (x:Fact):D.agg [.int x.kind,.int x.at_,.int x.n]=pD x:=_root_.id rfl
@[simp] theorem aIi (x:Fact):(pD x).c 0=.int x.kind:=_root_.id rfl
@[simp] theorem aIj (x:Fact):(pD x).c 1=.int x.at_:=_root_.id rfl
@[simp] theorem aIk (x:Fact):(pD x).c 2=.int x.n:=_root_.id rfl
def facts (l:List Fact):D:=.list (l.map pD)
@[simp] theorem aLI (l:List Fact):(facts l).l=l.map pD:=_root_.id rfl
@[simp] theorem aLH (l:List Fact):(facts l).cells=[facts l]:=_root_.id rfl
abbrev WC:Ty:=.agg [.int .i64,.int .i64,.int .i64]
def Fact.OK (x:Fact):Prop:=aX x.kind∧aX x.at_∧aX x.n
theorem aqS {d:D}(h:DTy WC d):∃x:Fact,d=pD x∧x.OK:=by
 obtain⟨ds,rfl,hs⟩:=h.agg_inv;obtain⟨d0,ds,rfl,h0,hs⟩:=hs.cons_inv;obtain⟨d1,ds,rfl,h1,hs⟩:=hs.cons_inv;obtain⟨d2,ds,rfl,h2,hs⟩:=hs.cons_inv;obtain rfl:=hs.nil_inv;obtain⟨n0,rfl,b0⟩:=h0.i64_inv;obtain⟨n1,rfl,b1⟩:=h1.i64_inv;obtain⟨n2,rfl,b2⟩:=h2.i64_inv;exact⟨⟨n0,n1,n2⟩,rfl,⟨b0,b1,b2⟩⟩
theorem Yu {d:D}(h:DTy (.slice WC) d):∃l:List Fact,d=facts l∧l.length≤maxLen∧∀y,y∈l→Fact.OK y:=by
 obtain⟨xs,rfl,hm,hx⟩:=h.slice_inv;obtain⟨l,rfl,hl⟩:=jL (enc:=pD) (P:=Fact.OK) fun x hh=>aqS (hx x hh);exact⟨l,rfl,by simpa using hm,hl⟩
structure File where
 bill:Bill
 signs:List Sign
 alters:List Alter
 acts:List Act
 facts:List Fact
 deriving Inhabited
def cm (x:File):D:=.agg [.int x.bill.drawer,.int x.bill.drawee,.int x.bill.payee,.int x.bill.sum,.int x.bill.currency,.int x.bill.tenor.kind,.int x.bill.tenor.n,.int x.bill.tenor.unit,.int x.bill.day,.int x.bill.city,.int x.bill.pay,.int x.bill.need,.int x.bill.rate,.int x.bill.flags,.int x.bill.parts,signs x.signs,alters x.alters,acts x.acts,facts x.facts]
@[simp] theorem aIt (x:File):(cm x).cells=[.int x.bill.drawer,.int x.bill.drawee,.int x.bill.payee,.int x.bill.sum,.int x.bill.currency,.int x.bill.tenor.kind,.int x.bill.tenor.n,.int x.bill.tenor.unit,.int x.bill.day,.int x.bill.city,.int x.bill.pay,.int x.bill.need,.int x.bill.rate,.int x.bill.flags,.int x.bill.parts,signs x.signs,alters x.alters,acts x.acts,facts x.facts]:=_root_.id rfl
@[simp] theorem aM6 (x:File):D.agg [.int x.bill.drawer,.int x.bill.drawee,.int x.bill.payee,.int x.bill.sum,.int x.bill.currency,.int x.bill.tenor.kind,.int x.bill.tenor.n,.int x.bill.tenor.unit,.int x.bill.day,.int x.bill.city,.int x.bill.pay,.int x.bill.need,.int x.bill.rate,.int x.bill.flags,.int x.bill.parts,signs x.signs,alters x.alters,acts x.acts,facts x.facts]=cm x:=_root_.id rfl
@[simp] theorem aJV (x:File):gi 19 (cm x)=cm x:=_root_.id rfl
@[simp] theorem aNy (x:File)(a0 a1 a2 a3 a4 a5 a6 a7 a8 a9 iS iT iU iV iW jV jW jX kE:D):D.agg (db [a0,a1,a2,a3,a4,a5,a6,a7,a8,a9,iS,iT,iU,iV,iW,jV,jW,jX,kE] 0 [.int x.bill.drawer,.int x.bill.drawee,.int x.bill.payee,.int x.bill.sum,.int x.bill.currency,.int x.bill.tenor.kind,.int x.bill.tenor.n,.int x.bill.tenor.unit,.int x.bill.day,.int x.bill.city,.int x.bill.pay,.int x.bill.need,.int x.bill.rate,.int x.bill.flags,.int x.bill.parts,signs x.signs,alters x.alters,acts x.acts,facts x.facts])=cm x:=_root_.id rfl
@[simp] theorem aIr (x:File):(cm x).c 5=.int x.bill.tenor.kind:=_root_.id rfl
@[simp] theorem aIs (x:File):(cm x).c 8=.int x.bill.day:=_root_.id rfl
@[simp] theorem aIm (x:File):(cm x).c 14=.int x.bill.parts:=_root_.id rfl
@[simp] theorem aIn (x:File):(cm x).c 15=signs x.signs:=_root_.id rfl
@[simp] theorem aIo (x:File):(cm x).c 16=alters x.alters:=_root_.id rfl
@[simp] theorem aIp (x:File):(cm x).c 17=acts x.acts:=_root_.id rfl
@[simp] theorem aIq (x:File):(cm x).c 18=facts x.facts:=_root_.id rfl
abbrev aGh:Ty:=.agg [.int .i64,.int .i64,.int .i64,.int .i64,.int .i64,.int .i64,.int .i64,.int .i64,.int .i64,.int .i64,.int .i64,.int .i64,.int .i64,.int .i64,.int .i64,.slice WK,.slice Wz,.slice Wy,.slice WC]
def File.OK (x:File):Prop:=Bill.OK x.bill∧(x.signs.length≤maxLen∧∀y,y∈x.signs→Sign.OK y)∧(x.alters.length≤maxLen∧∀y,y∈x.alters→Alter.OK y)∧(x.acts.length≤maxLen∧∀y,y∈x.acts→Act.OK y)∧(x.facts.length≤maxLen∧∀y,y∈x.facts→Fact.OK y)
theorem Yx {d:D}(h:DTy aGh d):∃x:File,d=cm x∧x.OK:=by
 obtain⟨ds,rfl,hs⟩:=h.agg_inv;obtain⟨d0,ds,rfl,h0,hs⟩:=hs.cons_inv;obtain⟨d1,ds,rfl,h1,hs⟩:=hs.cons_inv;obtain⟨d2,ds,rfl,h2,hs⟩:=hs.cons_inv;obtain⟨d3,ds,rfl,h3,hs⟩:=hs.cons_inv;obtain⟨d4,ds,rfl,h4,hs⟩:=hs.cons_inv;obtain⟨d5,ds,rfl,h5,hs⟩:=hs.cons_inv;obtain⟨d6,ds,rfl,h6,hs⟩:=hs.cons_inv;obtain⟨d7,ds,rfl,h7,hs⟩:=hs.cons_inv;obtain⟨d8,ds,rfl,h8,hs⟩:=hs.cons_inv;obtain⟨d9,ds,rfl,h9,hs⟩:=hs.cons_inv;obtain⟨d10,ds,rfl,mY,hs⟩:=hs.cons_inv;obtain⟨d11,ds,rfl,qV,hs⟩:=hs.cons_inv;obtain⟨d12,ds,rfl,OU,hs⟩:=hs.cons_inv;obtain⟨d13,ds,rfl,h13,hs⟩:=hs.cons_inv;obtain⟨d14,ds,rfl,h14,hs⟩:=hs.cons_inv;obtain⟨d15,ds,rfl,G8,hs⟩:=hs.cons_inv;obtain⟨d16,ds,rfl,G9,hs⟩:=hs.cons_inv;obtain⟨d17,ds,rfl,Ha,hs⟩:=hs.cons_inv;obtain⟨d18,ds,rfl,Hb,hs⟩:=hs.cons_inv;obtain rfl:=hs.nil_inv;obtain⟨n0,rfl,b0⟩:=h0.i64_inv;obtain⟨n1,rfl,b1⟩:=h1.i64_inv;obtain⟨n2,rfl,b2⟩:=h2.i64_inv;obtain⟨n3,rfl,b3⟩:=h3.i64_inv;obtain⟨n4,rfl,b4⟩:=h4.i64_inv;obtain⟨n5,rfl,b5⟩:=h5.i64_inv;obtain⟨n6,rfl,b6⟩:=h6.i64_inv;obtain⟨n7,rfl,b7⟩:=h7.i64_inv;obtain⟨n8,rfl,b8⟩:=h8.i64_inv;obtain⟨n9,rfl,b9⟩:=h9.i64_inv;obtain⟨n10,rfl,b10⟩:=mY.i64_inv;obtain⟨n11,rfl,b11⟩:=qV.i64_inv;obtain⟨n12,rfl,b12⟩:=OU.i64_inv;obtain⟨n13,rfl,b13⟩:=h13.i64_inv;obtain⟨n14,rfl,b14⟩:=h14.i64_inv;obtain⟨n15,rfl,b15,c15⟩:=aC1 G8;obtain⟨n16,rfl,b16,c16⟩:=aiY G9;obtain⟨n17,rfl,b17,c17⟩:=aiN Ha;obtain⟨n18,rfl,b18,c18⟩:=Yu Hb;exact⟨⟨⟨n0,n1,n2,n3,n4,⟨n5,n6,n7⟩,n8,n9,n10,n11,n12,n13,n14⟩,n15,n16,n17,n18⟩,rfl,⟨⟨b0,b1,b2,b3,b4,⟨b5,b6,b7⟩,b8,b9,b10,b11,b12,b13,b14⟩,⟨b15,c15⟩,⟨b16,c16⟩,⟨b17,c17⟩,⟨b18,c18⟩⟩⟩
structure Case where
 file:File
 sign:Int
 holder:Int
 defence:Int
 due:Int
 day:Int
 deriving Inhabited
def fe (x:Case):D:=.agg [.int x.file.bill.drawer,.int x.file.bill.drawee,.int x.file.bill.payee,.int x.file.bill.sum,.int x.file.bill.currency,.int x.file.bill.tenor.kind,.int x.file.bill.tenor.n,.int x.file.bill.tenor.unit,.int x.file.bill.day,.int x.file.bill.city,.int x.file.bill.pay,.int x.file.bill.need,.int x.file.bill.rate,.int x.file.bill.flags,.int x.file.bill.parts,signs x.file.signs,alters x.file.alters,acts x.file.acts,facts x.file.facts,.int x.sign,.int x.holder,.int x.defence,.int x.due,.int x.day]
@[simp] theorem aHE (x:Case):(fe x).cells=[.int x.file.bill.drawer,.int x.file.bill.drawee,.int x.file.bill.payee,.int x.file.bill.sum,.int x.file.bill.currency,.int x.file.bill.tenor.kind,.int x.file.bill.tenor.n,.int x.file.bill.tenor.unit,.int x.file.bill.day,.int x.file.bill.city,.int x.file.bill.pay,.int x.file.bill.need,.int x.file.bill.rate,.int x.file.bill.flags,.int x.file.bill.parts,signs x.file.signs,alters x.file.alters,acts x.file.acts,facts x.file.facts,.int x.sign,.int x.holder,.int x.defence,.int x.due,.int x.day]:=_root_.id rfl
@[simp] theorem aM0 (x:Case):D.agg [.int x.file.bill.drawer,.int x.file.bill.drawee,.int x.file.bill.payee,.int x.file.bill.sum,.int x.file.bill.currency,.int x.file.bill.tenor.kind,.int x.file.bill.tenor.n,.int x.file.bill.tenor.unit,.int x.file.bill.day,.int x.file.bill.city,.int x.file.bill.pay,.int x.file.bill.need,.int x.file.bill.rate,.int x.file.bill.flags,.int x.file.bill.parts,signs x.file.signs,alters x.file.alters,acts x.file.acts,facts x.file.facts,.int x.sign,.int x.holder,.int x.defence,.int x.due,.int x.day]=fe x:=_root_.id rfl
@[simp] theorem aiW (x:Case):gi 24 (fe x)=fe x:=_root_.id rfl
@[simp] theorem aA4 (x:Case)(a0 a1 a2 a3 a4 a5 a6 a7 a8 a9 iS iT iU iV iW jV jW jX kE tT tU tV tW tX:D):D.agg (db [a0,a1,a2,a3,a4,a5,a6,a7,a8,a9,iS,iT,iU,iV,iW,jV,jW,jX,kE,tT,tU,tV,tW,tX] 0 [.int x.file.bill.drawer,.int x.file.bill.drawee,.int x.file.bill.payee,.int x.file.bill.sum,.int x.file.bill.currency,.int x.file.bill.tenor.kind,.int x.file.bill.tenor.n,.int x.file.bill.tenor.unit,.int x.file.bill.day,.int x.file.bill.city,.int x.file.bill.pay,.int x.file.bill.need,.int x.file.bill.rate,.int x.file.bill.flags,.int x.file.bill.parts,signs x.file.signs,alters x.file.alters,acts x.file.acts,facts x.file.facts,.int x.sign,.int x.holder,.int x.defence,.int x.due,.int x.day])=fe x:=_root_.id rfl
@[simp] theorem aHD (x:Case):(fe x).c 9=.int x.file.bill.city:=_root_.id rfl
@[simp] theorem aHw (x:Case):(fe x).c 10=.int x.file.bill.pay:=_root_.id rfl
@[simp] theorem aHx (x:Case):(fe x).c 15=signs x.file.signs:=_root_.id rfl
@[simp] theorem aHy (x:Case):(fe x).c 19=.int x.sign:=_root_.id rfl
@[simp] theorem aHz (x:Case):(fe x).c 20=.int x.holder:=_root_.id rfl
@[simp] theorem aHA (x:Case):(fe x).c 21=.int x.defence:=_root_.id rfl
@[simp] theorem aHB (x:Case):(fe x).c 22=.int x.due:=_root_.id rfl
@[simp] theorem aHC (x:Case):(fe x).c 23=.int x.day:=_root_.id rfl
def cases(l:List Case):D:=.list (l.map fe)
structure Cell where
 known:Bool
 n:Int
 deriving DecidableEq,Inhabited
def cG (x:Cell):D:=.agg [.bool x.known,.int x.n]
@[simp] theorem aHH (x:Cell):(cG x).cells=[.bool x.known,.int x.n]:=_root_.id rfl
@[simp] theorem aM1 (x:Cell):D.agg [.bool x.known,.int x.n]=cG x:=_root_.id rfl
@[simp] theorem aHF (x:Cell):(cG x).c 0=.bool x.known:=_root_.id rfl
@[simp] theorem aHG (x:Cell):(cG x).c 1=.int x.n:=_root_.id rfl
def cells (l:List Cell):D:=.list (l.map cG)
@[simp] theorem aKm (l:List Cell):(cells l).l=l.map cG:=_root_.id rfl
@[simp] theorem aKl (l:List Cell):(cells l).cells=[cells l]:=_root_.id rfl
structure Said where
 cell:Cell
 order:Int
 path:List Int
 err:Int
 deriving Inhabited
def kG (x:Said):D:=.agg [.bool x.cell.known,.int x.cell.n,.int x.order,ints x.path,.int x.err]
@[simp] theorem aJd (x:Said):(kG x).cells=[.bool x.cell.known,.int x.cell.n,.int x.order,ints x.path,.int x.err]:=_root_.id rfl
@[simp] theorem aNf (x:Said):D.agg [.bool x.cell.known,.int x.cell.n,.int x.order,ints x.path,.int x.err]=kG x:=_root_.id rfl
@[simp] theorem aJZ (x:Said):gi 5 (kG x)=kG x:=_root_.id rfl
@[simp] theorem aJc (x:Said):(kG x).c 4=.int x.err:=_root_.id rfl
@[simp] theorem aOn (a0 x0:D):db [a0] 0 [x0]=[x0]:=_root_.id rfl
@[simp] theorem aOo (a0 a1 x0 x1:D):db [a0,a1] 0 [x0,x1]=[x0,x1]:=_root_.id rfl
@[simp] theorem aOp (a0 a1 a2 x0 x1 x2:D):db [a0,a1,a2] 0 [x0,x1,x2]=[x0,x1,x2]:=_root_.id rfl
@[simp] theorem aOq (a0 a1 a2 a3 x0 x1 x2 x3:D):db [a0,a1,a2,a3] 0 [x0,x1,x2,x3]=[x0,x1,x2,x3]:=_root_.id rfl
@[simp] theorem aOr (a0 a1 a2 a3 a4 x0 x1 x2 x3 x4:D):db [a0,a1,a2,a3,a4] 0 [x0,x1,x2,x3,x4]=[x0,x1,x2,x3,x4]:=_root_.id rfl
@[simp] theorem aOs (a0 a1 a2 a3 a4 a5 x0 x1 x2 x3 x4 x5:D):db [a0,a1,a2,a3,a4,a5] 0 [x0,x1,x2,x3,x4,x5]=[x0,x1,x2,x3,x4,x5]:=_root_.id rfl
@[simp] theorem aOt (a0 a1 a2 a3 a4 a5 a6 a7 a8 x0 x1 x2 x3 x4 x5 x6 x7 x8:D):db [a0,a1,a2,a3,a4,a5,a6,a7,a8] 0 [x0,x1,x2,x3,x4,x5,x6,x7,x8]=[x0,x1,x2,x3,x4,x5,x6,x7,x8]:=_root_.id rfl
end Rm
set_option maxRecDepth 100000
namespace Rm
open Go Go.Proofs Cx
abbrev I:Ty:=.int .i64
abbrev Y0:Ty:=.agg [.str,I,I,(.slice I),(.slice I),(.slice I)]
abbrev Y1:Ty:=.agg [I]
abbrev Y2:Ty:=.agg [.str,I,I]
abbrev Y3:Ty:=.agg [I,I,.bool]
abbrev Y4:Ty:=.agg [I,I,I,(.slice .trm)]
abbrev Y5:Ty:=.agg [.str,.bool,(.slice Y3),(.slice Y4)]
abbrev Y6:Ty:=.agg [I,I,I]
abbrev Y7:Ty:=.agg [I,I,I,I,I]
abbrev Y8:Ty:=.agg [(.slice .str),(.slice Y0),(.slice Y1),(.slice Y2),(.slice Y5),(.slice Y6),(.slice Y7),(.slice Y6)]
abbrev Y9:Ty:=.agg [I,I,I,I,I,I,I,I,I]
abbrev kD:Ty:=.agg [I,I]
abbrev cC:Ty:=.agg [I,I,I,I,I,I,I,I,I,I,I,I,I,I,I,(.slice Y9),(.slice kD),(.slice Y9),(.slice Y6)]
abbrev Ni:Ty:=.agg [I,I,I,I]
abbrev rS:Ty:=.agg [.bool,I,I,(.slice I),I]
abbrev pv:Ty:=.agg [I,I,I,I,I,I,I,I,I,I,I,I,I,I,I,(.slice Y9),(.slice kD),(.slice Y9),(.slice Y6),I,I,I,I,I]
abbrev Xa:Ty:=.agg [I,I,I,I,I,I,I]
abbrev Xb:Ty:=.agg [I,I,I,I,I,I,.bool]
abbrev nO:Ty:=.agg [(.slice .str),(.slice Y0),(.slice Y1),(.slice Y2),(.slice Y5),(.slice Y6),(.slice Y7),(.slice Y6),I,I,I,I,I,I,I,I,I,I,I,I,I,I,I,I,(.slice Y9),(.slice kD),(.slice Y9),(.slice Y6),I,I,I]
abbrev y7:Ty:=.agg [I,I,I,I,I,I,I,I,I,I,I,I,I,I,I]
abbrev gY:Ty:=.agg [.bool,I]
abbrev Em:Ty:=.agg [(.slice .str),(.slice Y0),(.slice Y1),(.slice Y2),(.slice Y5),(.slice Y6),(.slice Y7),(.slice Y6),I,I,I,I,I,I,I,I,I,I,I,I,I,I,I,I,I,(.slice Y9),(.slice kD),(.slice Y9),(.slice Y6),I,I]
abbrev qF:Ty:=.agg [I,I,(.slice .trm)]
abbrev Xc:Ty:=.agg [(.slice gY)]
abbrev Xd:Ty:=.agg [(.int .u64),(.int .u64)]
abbrev Y24:Ty:=.agg [(.slice I),I]
def ab:List (Nat×Sig):=[
 (6,⟨[Y8,I,cC,I,I,(.slice Y6)],.bool,.dat⟩),
 (8,⟨[Y8,I,cC,I,I],.bool,.dat⟩),
 (10,⟨[Y8,I,cC,I,I,(.int .u64)],.bool,.dat⟩),
 (11,⟨[Y8,I,cC,I,I],.bool,.dat⟩),
 (12,⟨[Y8,I,cC,I,I,Y9],.bool,.dat⟩),
 (13,⟨[Y8,I,cC,I,I,I],.bool,.dat⟩),
 (20,⟨[cC,I],cC,.dat⟩),
 (21,⟨[cC,I,I],.bool,.dat⟩),
 (25,⟨[],.bool,.dat⟩),
 (26,⟨[Y8,cC],.bool,.dat⟩),
 (27,⟨[Y8,I,cC,I,I],Ni,.dat⟩),
 (28,⟨[cC,(.slice Y6)],cC,.dat⟩),
 (29,⟨[Ni,Ni],.bool,.dat⟩),
 (30,⟨[Y8,I,cC,I],I,.dat⟩),
 (32,⟨[Y8,I,cC,I],I,.dat⟩),
 (33,⟨[rS],I,.dat⟩),
 (34,⟨[Y8,I,I,pv],rS,.dat⟩),
 (37,⟨[],.bool,.dat⟩),
 (38,⟨[Y8,cC],.bool,.dat⟩),
 (39,⟨[Y8,I,cC,I,I],Xa,.dat⟩),
 (40,⟨[Y8,I,cC,I,I],(.tup [Xb,.bool]),.dat⟩),
 (41,⟨[I,I,I,I,I],(.tup [I,I]),.dat⟩),
 (43,⟨[Y8,cC],.bool,.dat⟩),
 (44,⟨[Y8],I,.dat⟩),
 (45,⟨[(.slice I),I],.bool,.dat⟩),
 (48,⟨[I,I,I],.bool,.dat⟩),
 (54,⟨[I,I],.bool,.dat⟩),
 (55,⟨[cC,I],(.map I .bool),.dat⟩),
 (56,⟨[rS],I,.dat⟩),
 (57,⟨[Y8,I,I,cC,I],rS,.dat⟩),
 (58,⟨[Y8,cC],I,.dat⟩),
 (68,⟨[],Y8,.dat⟩),
 (69,⟨[I,I],cC,.dat⟩),
 (70,⟨[Y8,I,cC,I,I],nO,.dat⟩),
 (71,⟨[nO],I,.dat⟩),
 (72,⟨[rS,I],I,.dat⟩),
 (73,⟨[nO,I],rS,.dat⟩),
 (74,⟨[nO],I,.dat⟩),
 (75,⟨[nO],I,.dat⟩),
 (76,⟨[(.slice I)],I,.dat⟩),
 (77,⟨[cC,Y6],cC,.dat⟩),
 (78,⟨[I,I],.bool,.dat⟩),
 (79,⟨[nO],I,.dat⟩),
 (80,⟨[Y8,y7,I,I],(.tup [I,I]),.dat⟩),
 (81,⟨[cC],I,.dat⟩),
 (82,⟨[Y8,I,I,pv],(.tup [rS,(.slice gY)]),.dat⟩),
 (83,⟨[Y5,I,(.slice gY)],(.tup [gY,I]),.dat⟩),
 (84,⟨[Y8,I,cC,I],Em,.dat⟩),
 (85,⟨[Em,I],Xb,.dat⟩),
 (86,⟨[I,I],(.tup [Y8,cC]),.dat⟩),
 (87,⟨[Y8,I,I,I],(.tup [kD,.bool]),.dat⟩),
 (88,⟨[I,I,I,Xa],.bool,.dat⟩),
 (89,⟨[Y8],I,.dat⟩),
 (90,⟨[cC],.bool,.dat⟩),
 (91,⟨[I,I,I,I],I,.dat⟩),
 (92,⟨[Y8,y7,I,I,I,I],I,.dat⟩),
 (93,⟨[I,I],.bool,.dat⟩),
 (94,⟨[I,I,I],(.tup [I,I,.bool]),.dat⟩),
 (95,⟨[Y8],.bool,.dat⟩),
 (96,⟨[cC],.bool,.dat⟩),
 (97,⟨[Y5],.bool,.dat⟩),
 (98,⟨[Y8],I,.dat⟩),
 (99,⟨[Y8],I,.dat⟩),
 (100,⟨[Y8],I,.dat⟩),
 (101,⟨[Y8],I,.dat⟩),
 (102,⟨[Y8],I,.dat⟩),
 (103,⟨[(.slice I),I],I,.dat⟩),
 (112,⟨[Y8,y7],I,.dat⟩),
 (113,⟨[Y8,cC,I],I,.dat⟩),
 (114,⟨[I,I,I],.bool,.dat⟩),
 (115,⟨[Y8,cC],I,.dat⟩),
 (116,⟨[cC],I,.dat⟩),
 (118,⟨[nO,I,gY],I,.dat⟩),
 (119,⟨[nO,I,I],I,.dat⟩),
 (120,⟨[nO],gY,.dat⟩),
 (121,⟨[nO],I,.dat⟩),
 (122,⟨[nO,rS,I],gY,.dat⟩),
 (123,⟨[cC,I,I],gY,.dat⟩),
 (124,⟨[Y8,I],.bool,.dat⟩),
 (125,⟨[I],.bool,.dat⟩),
 (126,⟨[Y6],.bool,.dat⟩),
 (127,⟨[Y8,y7,I],(.tup [I,I]),.dat⟩),
 (128,⟨[Y8,I,I],(.tup [I,I]),.dat⟩),
 (129,⟨[(.slice I)],I,.dat⟩),
 (130,⟨[Y8,pv],(.tup [pv,(.slice gY)]),.dat⟩),
 (131,⟨[I],(.tup [I,.bool]),.dat⟩),
 (132,⟨[Y8,I,pv],(.nsl I),.dat⟩),
 (133,⟨[Y8,I,I,(.slice I)],(.tup [(.slice I),I]),.dat⟩),
 (134,⟨[Y5,I],(.tup [qF,I]),.dat⟩),
 (135,⟨[qF,(.slice gY)],gY,.dat⟩),
 (136,⟨[(.slice I)],I,.dat⟩),
 (137,⟨[Em,I,I],I,.dat⟩),
 (138,⟨[Em,I],(.tup [I,I]),.dat⟩),
 (139,⟨[(.slice Y7),I,I,I],I,.dat⟩),
 (140,⟨[I,I],(.tup [kD,I]),.dat⟩),
 (141,⟨[Y8],(.tup [(.slice .str),(.slice .str),(.slice .str)]),.dat⟩),
 (142,⟨[(.slice .str),I,(.fn [I] .bool)],I,.dat⟩),
 (143,⟨[I],.bool,.dat⟩),
 (144,⟨[I,(.ref Y8)],.bool,.dat⟩),
 (145,⟨[Y8,Y0],.bool,.dat⟩),
 (146,⟨[I,I],.bool,.dat⟩),
 (147,⟨[I,(.ref Y8)],.bool,.dat⟩),
 (148,⟨[I,(.ref Y8)],.bool,.dat⟩),
 (149,⟨[Y5],.bool,.dat⟩),
 (150,⟨[Y8],I,.dat⟩),
 (151,⟨[Y8],I,.dat⟩),
 (152,⟨[I,kD,kD],I,.dat⟩),
 (153,⟨[(.int .u64),(.int .u64)],(.tup [(.int .u64),(.int .u64)]),.dat⟩),
 (154,⟨[(.int .u64),(.int .u64),(.int .u64)],(.tup [(.int .u64),(.int .u64)]),.dat⟩),
 (155,⟨[qF],.bool,.dat⟩),
 (156,⟨[(.slice .str),I],I,.dat⟩),
 (157,⟨[Y8,Y0],.bool,.dat⟩),
 (158,⟨[Y5],.bool,.dat⟩),
 (161,⟨[I,I],.bool,.dat⟩),
 (162,⟨[y7],.bool,.dat⟩),
 (163,⟨[Y8,I,I],(.tup [I,I]),.dat⟩),
 (164,⟨[Y8,cC,I],.bool,.dat⟩),
 (165,⟨[Y8,cC,Y9],.bool,.dat⟩),
 (166,⟨[(.slice I)],I,.dat⟩),
 (167,⟨[I,I],I,.dat⟩),
 (168,⟨[Y0,I,I],(.tup [I,I]),.dat⟩),
 (169,⟨[I,Y6],(.tup [I,I]),.dat⟩),
 (170,⟨[Y8,I],I,.dat⟩),
 (171,⟨[Y8,I,I],I,.dat⟩),
 (172,⟨[Y0,I],(.tup [I,I]),.dat⟩),
 (173,⟨[Y8,pv],(.slice gY),.dat⟩),
 (174,⟨[Y8,I,I,(.slice I)],.bool,.dat⟩),
 (175,⟨[Y8,I,I,(.slice I)],(.tup [I,.bool]),.dat⟩),
 (176,⟨[(.slice Y4),(.fn [Y4] .bool)],I,.dat⟩),
 (177,⟨[Y4,(.ref I)],.bool,.dat⟩),
 (178,⟨[qF],(.tup [I,I]),.dat⟩),
 (179,⟨[Xc,qF],(.tup [gY,(.slice I)]),.dat⟩),
 (180,⟨[cC,I],I,.dat⟩),
 (181,⟨[I],(.int .u64),.dat⟩),
 (182,⟨[(.int .u64),(.int .u64)],(.int .u64),.dat⟩),
 (183,⟨[.bool,Xd,Xd],(.tup [kD,I]),.dat⟩),
 (184,⟨[(.slice .str),I],I,.dat⟩),
 (185,⟨[(.slice I),I,I],.bool,.dat⟩),
 (186,⟨[(.int .u64)],I,.dat⟩),
 (187,⟨[qF,I,I],I,.dat⟩),
 (188,⟨[.str],.bool,.dat⟩),
 (189,⟨[(.slice .str),I,.str],.bool,.dat⟩),
 (190,⟨[(.slice I),I,I],.bool,.dat⟩),
 (191,⟨[cC,I,(.slice I)],.bool,.dat⟩),
 (192,⟨[cC,I,I],.bool,.dat⟩),
 (193,⟨[I],.bool,.dat⟩),
 (194,⟨[I],.bool,.dat⟩),
 (195,⟨[I,I],(.tup [I,I]),.dat⟩),
 (196,⟨[Y0,I,I],(.fn [(.fn [I] .bool)] (.tup [])),.dat⟩),
 (197,⟨[(.slice kD),(.fn [kD] .bool)],.bool,.dat⟩),
 (198,⟨[kD,(.ref pv)],.bool,.dat⟩),
 (199,⟨[.bool],gY,.dat⟩),
 (200,⟨[cC,I,I],gY,.dat⟩),
 (201,⟨[(.slice I),(.fn [I] .bool)],.bool,.dat⟩),
 (202,⟨[I,(.ref I)],.bool,.dat⟩),
 (203,⟨[qF,I],I,.dat⟩),
 (204,⟨[qF],(.tup [I,I]),.dat⟩),
 (205,⟨[Xc,I],gY,.dat⟩),
 (206,⟨[I,(.slice gY)],gY,.dat⟩),
 (207,⟨[(.slice (.slice I))],(.slice I),.dat⟩),
 (208,⟨[.str],.bool,.dat⟩),
 (209,⟨[(.slice .str),.str],.bool,.dat⟩),
 (210,⟨[(.int .u64)],I,.dat⟩),
 (211,⟨[(.int .u8)],.bool,.dat⟩),
 (212,⟨[I],(.tup [I,I,I]),.dat⟩),
 (213,⟨[I,I,I],(.tup [I,I]),.dat⟩),
 (214,⟨[I,I],I,.dat⟩),
 (216,⟨[Y0,I],.bool,.dat⟩),
 (217,⟨[(.slice kD),(.fn [kD] .bool)],I,.dat⟩),
 (218,⟨[(.slice I),(.fn [I] .bool)],I,.dat⟩),
 (219,⟨[qF],(.tup [I,I]),.dat⟩),
 (220,⟨[I],Y24,.dat⟩),
 (221,⟨[I],(.tup [I,.bool]),.dat⟩),
 (222,⟨[.bool],gY,.dat⟩),
 (223,⟨[I],I,.dat⟩),
 (224,⟨[I,I,I],I,.dat⟩),
 (225,⟨[.nils .bool,I],(.slice I),(.row 3 I)⟩),
 (226,⟨[(.slice .str),.str],I,.dat⟩),
 (227,⟨[I,I,I],I,.dat⟩),
 (228,⟨[I,I],I,.dat⟩)]
def Oc:List (Nat×CSig):=[
 (143,⟨[],[I],.bool⟩),
 (144,⟨[(.ref Y8)],[I],.bool⟩),
 (147,⟨[(.ref Y8)],[I],.bool⟩),
 (148,⟨[(.ref Y8)],[I],.bool⟩),
 (177,⟨[(.ref I)],[Y4],.bool⟩),
 (198,⟨[(.ref pv)],[kD],.bool⟩),
 (202,⟨[(.ref I)],[I],.bool⟩),
 (215,⟨[(.ref I),(.ref I),(.ref Y0)],[(.fn [I] .bool)],(.tup [])⟩)]
abbrev ab7:Nat:=6
abbrev ab6:Nat:=8
abbrev acX:Nat:=20
abbrev acb:Nat:=25
abbrev ab9:Nat:=26
abbrev abZ:Nat:=27
abbrev ab8:Nat:=28
abbrev ace:Nat:=29
abbrev abY:Nat:=30
abbrev abC:Nat:=32
abbrev abE:Nat:=33
abbrev abA:Nat:=34
abbrev acK:Nat:=43
abbrev acs:Nat:=44
abbrev ac7:Nat:=45
abbrev acy:Nat:=48
abbrev ac3:Nat:=54
abbrev abD:Nat:=56
abbrev abB:Nat:=57
abbrev aci:Nat:=58
abbrev aca:Nat:=68
abbrev acd:Nat:=69
abbrev ab0:Nat:=70
abbrev ab4:Nat:=71
abbrev ab1:Nat:=72
abbrev QV:Nat:=73
abbrev ab5:Nat:=74
abbrev ab3:Nat:=75
abbrev Ip:Nat:=76
abbrev acG:Nat:=77
abbrev Q0:Nat:=78
abbrev ab2:Nat:=79
abbrev Ir:Nat:=80
abbrev acZ:Nat:=81
abbrev abF:Nat:=82
abbrev acf:Nat:=83
abbrev acL:Nat:=89
abbrev acu:Nat:=95
abbrev acF:Nat:=96
abbrev acJ:Nat:=97
abbrev acz:Nat:=98
abbrev acA:Nat:=99
abbrev acB:Nat:=100
abbrev acD:Nat:=101
abbrev acC:Nat:=102
abbrev ade:Nat:=103
abbrev ady:Nat:=112
abbrev acp:Nat:=113
abbrev Ct:Nat:=114
abbrev ack:Nat:=115
abbrev acn:Nat:=116
abbrev QZ:Nat:=118
abbrev QW:Nat:=119
abbrev QY:Nat:=120
abbrev QX:Nat:=121
abbrev Iq:Nat:=122
abbrev acE:Nat:=123
abbrev adj:Nat:=124
abbrev Rb:Nat:=125
abbrev adh:Nat:=126
abbrev Is:Nat:=127
abbrev Rc:Nat:=128
abbrev adg:Nat:=129
abbrev abG:Nat:=130
abbrev acg:Nat:=131
abbrev azF:Nat:=132
abbrev abV:Nat:=133
abbrev ach:Nat:=134
abbrev adm:Nat:=135
abbrev acS:Nat:=141
abbrev acO:Nat:=142
abbrev Q6:Nat:=143
abbrev Q7:Nat:=144
abbrev acN:Nat:=145
abbrev acP:Nat:=146
abbrev Q8:Nat:=147
abbrev Q9:Nat:=148
abbrev acT:Nat:=149
abbrev acW:Nat:=150
abbrev acU:Nat:=151
abbrev abH:Nat:=153
abbrev acH:Nat:=155
abbrev Cu:Nat:=156
abbrev Q4:Nat:=157
abbrev Q5:Nat:=158
abbrev adz:Nat:=161
abbrev adA:Nat:=162
abbrev Ra:Nat:=163
abbrev aco:Nat:=164
abbrev acj:Nat:=165
abbrev abT:Nat:=166
abbrev abS:Nat:=167
abbrev abL:Nat:=168
abbrev adi:Nat:=169
abbrev acM:Nat:=170
abbrev adk:Nat:=171
abbrev abK:Nat:=172
abbrev ac0:Nat:=173
abbrev abX:Nat:=174
abbrev abW:Nat:=175
abbrev ada:Nat:=176
abbrev Q3:Nat:=177
abbrev adl:Nat:=178
abbrev Rd:Nat:=179
abbrev acR:Nat:=184
abbrev acV:Nat:=185
abbrev acI:Nat:=187
abbrev acw:Nat:=188
abbrev acr:Nat:=189
abbrev acx:Nat:=190
abbrev acm:Nat:=191
abbrev acq:Nat:=192
abbrev abU:Nat:=193
abbrev abR:Nat:=194
abbrev abI:Nat:=195
abbrev abN:Nat:=196
abbrev ac5:Nat:=197
abbrev ac1:Nat:=198
abbrev ac2:Nat:=199
abbrev acY:Nat:=200
abbrev ac6:Nat:=201
abbrev QU:Nat:=202
abbrev adu:Nat:=203
abbrev adp:Nat:=204
abbrev adt:Nat:=205
abbrev adq:Nat:=206
abbrev ac4:Nat:=207
abbrev acQ:Nat:=208
abbrev ac8:Nat:=209
abbrev acv:Nat:=211
abbrev abM:Nat:=212
abbrev abJ:Nat:=213
abbrev abP:Nat:=214
abbrev abO:Nat:=215
abbrev abQ:Nat:=216
abbrev ac9:Nat:=217
abbrev adb:Nat:=218
abbrev ads:Nat:=219
abbrev adw:Nat:=220
abbrev adn:Nat:=221
abbrev adx:Nat:=222
abbrev adr:Nat:=223
abbrev ado:Nat:=224
abbrev adf:Nat:=226
abbrev QT:Nat:=227
abbrev adv:Nat:=228
noncomputable def ctx:Ctx:={P:=Tryz.prog,cap:=aa Oc,sig:=aa ab,azu:=fun _=>none,glob:=Ui 0 [6,7,10,12,13,14,15,16,20,21]}
abbrev fW:PE:=.con (.agg [(.int 0),(.int 0),(.int 0),(.int 0),(.int 0),(.int 0),(.int 0),(.int 0),(.int 0),(.int 0),(.int 0),(.int 0),(.int 0),(.int 0),(.int 0),(.list []),(.list []),(.list []),(.list [])])
abbrev CQ:PE:=.setc (.con (.agg [(.list []),(.list []),(.list []),(.list []),(.list []),(.list []),(.list []),(.list [])])) 0 (.mk [(.lst [(.con (.v (.string ⟨#[102,114,97,110,99]⟩)))]),(.lst [(.mk [(.con (.v (.string ⟨#[76,121,111,110]⟩))),(pi 0),(pi 0),pL,pL,pL])]),(.lst [(.mk [(pi 0)])]),(.lst [(.mk [(.con (.v (.string ⟨#[97]⟩))),(pi 0),(pi 0)]),(.mk [(.con (.v (.string ⟨#[98]⟩))),(pi 0),(pi 0)])]),(.lst [(.mk [(pc (.setc (.con (.agg [(.v (.string ⟨#[]⟩)),(.bool false),(.list []),(.list [])])) 0 (.mk [(.con (.v (.string ⟨#[103,101,110,101,118,97]⟩))),pF,pL,(.lst [(.mk [(pi 8),(.mk [(pc (.setc (.con (.agg [(.int 0),(.int 0),(.list [])])) 0 (.mk [(pi 1),(pi 1),pL])) 0),(pc (.setc (.con (.agg [(.int 0),(.int 0),(.list [])])) 0 (.mk [(pi 1),(pi 1),pL])) 1),pL])]),(.mk [(pi 9),(.mk [(pc (.setc (.con (.agg [(.int 0),(.int 0),(.list [])])) 0 (.mk [(pi 2),(pi 15),pL])) 0),(pc (.setc (.con (.agg [(.int 0),(.int 0),(.list [])])) 0 (.mk [(pi 2),(pi 15),pL])) 1),pL])]),(.mk [(pi 10),(.mk [(pi 0),(pi 2),pL])])])])) 0),(pc (.setc (.con (.agg [(.v (.string ⟨#[]⟩)),(.bool false),(.list []),(.list [])])) 0 (.mk [(.con (.v (.string ⟨#[103,101,110,101,118,97]⟩))),pF,pL,(.lst [(.mk [(pi 8),(.mk [(pc (.setc (.con (.agg [(.int 0),(.int 0),(.list [])])) 0 (.mk [(pi 1),(pi 1),pL])) 0),(pc (.setc (.con (.agg [(.int 0),(.int 0),(.list [])])) 0 (.mk [(pi 1),(pi 1),pL])) 1),pL])]),(.mk [(pi 9),(.mk [(pc (.setc (.con (.agg [(.int 0),(.int 0),(.list [])])) 0 (.mk [(pi 2),(pi 15),pL])) 0),(pc (.setc (.con (.agg [(.int 0),(.int 0),(.list [])])) 0 (.mk [(pi 2),(pi 15),pL])) 1),pL])]),(.mk [(pi 10),(.mk [(pi 0),(pi 2),pL])])])])) 1),pL,(pc (.setc (.con (.agg [(.v (.string ⟨#[]⟩)),(.bool false),(.list []),(.list [])])) 0 (.mk [(.con (.v (.string ⟨#[103,101,110,101,118,97]⟩))),pF,pL,(.lst [(.mk [(pi 8),(.mk [(pc (.setc (.con (.agg [(.int 0),(.int 0),(.list [])])) 0 (.mk [(pi 1),(pi 1),pL])) 0),(pc (.setc (.con (.agg [(.int 0),(.int 0),(.list [])])) 0 (.mk [(pi 1),(pi 1),pL])) 1),pL])]),(.mk [(pi 9),(.mk [(pc (.setc (.con (.agg [(.int 0),(.int 0),(.list [])])) 0 (.mk [(pi 2),(pi 15),pL])) 0),(pc (.setc (.con (.agg [(.int 0),(.int 0),(.list [])])) 0 (.mk [(pi 2),(pi 15),pL])) 1),pL])]),(.mk [(pi 10),(.mk [(pi 0),(pi 2),pL])])])])) 3)])]),pL,pL,pL])
abbrev jP:PE:=.setc (.setc fW 0 (.mk [(af 15 (.setc Ef 0 (.mk [(pi 0),(pi 1),(pi 0),(pi 5),(pi 0),(.mk [(pi 3),(pi 10),(pi 0)]),(pi 2),(pi 0),(pi 0),(pi (-1)),(pi 0),(pi 1),(pi 1)]))),(.lst [(.mk [(pi 0),(pi 0),(pi 0),(pi (-1)),(pi (-1)),(pi 0),(pi 2),(pi 0),(pi 0)])]),pL,pL,pL])) 17 pN
abbrev vH:PE:=.ai .quo .i64 (bn (aD (bn (.ai .rem .i64 (aD r0 (pi 730425)) (pi 146097)) (.ai .quo .i64 (.ai .rem .i64 (aD r0 (pi 730425)) (pi 146097)) (pi 1460))) (.ai .quo .i64 (.ai .rem .i64 (aD r0 (pi 730425)) (pi 146097)) (pi 36524))) (.ai .quo .i64 (.ai .rem .i64 (aD r0 (pi 730425)) (pi 146097)) (pi 146096))) (pi 365)
abbrev km:PE:=.con (.v (.string ⟨#[0,1,2,2,3,3,3,3,4,4,4,4,4,4,4,4,5,5,5,5,5,5,5,5,5,5,5,5,5,5,5,5,6,6,6,6,6,6,6,6,6,6,6,6,6,6,6,6,6,6,6,6,6,6,6,6,6,6,6,6,6,6,6,6,7,7,7,7,7,7,7,7,7,7,7,7,7,7,7,7,7,7,7,7,7,7,7,7,7,7,7,7,7,7,7,7,7,7,7,7,7,7,7,7,7,7,7,7,7,7,7,7,7,7,7,7,7,7,7,7,7,7,7,7,7,7,7,7,8,8,8,8,8,8,8,8,8,8,8,8,8,8,8,8,8,8,8,8,8,8,8,8,8,8,8,8,8,8,8,8,8,8,8,8,8,8,8,8,8,8,8,8,8,8,8,8,8,8,8,8,8,8,8,8,8,8,8,8,8,8,8,8,8,8,8,8,8,8,8,8,8,8,8,8,8,8,8,8,8,8,8,8,8,8,8,8,8,8,8,8,8,8,8,8,8,8,8,8,8,8,8,8,8,8,8,8,8,8,8,8,8,8,8,8,8,8,8,8,8,8,8,8,8,8,8,8]⟩))
abbrev kR:PE:=.setc (.setc (.setc fW 0 (.mk [(.mk [(pi 0),(pi 1),(pi 1),(pi 1000),(pi 0),(.mk [(pi 3),(pi 100),(pi 0)]),(pi 10),(pi 0),(pi 0),(pi (-1)),(pi 60),(pi 0),(pi 1)]),pL,pL,pL,pL])) 15 pN) 17 pN
abbrev cF:PE:=.con (.agg [(.bool false),(.int 0)])
abbrev qk:PE:=.ai .or .u64 (.ai .shl .u64 r0 (.conv .u64 mN)) (.ai .shr .u64 r1 (.ai .sub .u64 (.con (.v (.int .u64 64))) (.conv .u64 mN)))
abbrev LW:PE:=.setc (.setc (.setc (.con (.agg [(.list []),(.list []),(.list []),(.list []),(.list []),(.list []),(.list []),(.list [])])) 0 (.mk [(.lst [(.con (.v (.string ⟨#[102,114,97,110,99]⟩))),(.con (.v (.string ⟨#[112,111,117,110,100]⟩)))]),(.lst [(.mk [(.con (.v (.string ⟨#[76,121,111,110]⟩))),(pi 0),(pi 0),pL,pL,pL]),(.mk [(.con (.v (.string ⟨#[76,111,110,100,111,110]⟩))),(pi 0),(pi 1),pL,pL,pL])]),(.lst [(.mk [(pi 0)])]),(.lst [(.mk [(.con (.v (.string ⟨#[65]⟩))),(pi 1),(pi 0)]),(.mk [(.con (.v (.string ⟨#[66]⟩))),(pi 0),(pi 0)])]),pL,pL,pL,pL])) 4 pN) 6 pN
abbrev qf:PE:=.ai .sub .u64 (.ai .add .u64 (.ai .mul .u64 bp (.con (.v (.int .u64 4294967296)))) bU) (.ai .mul .u64 bM r2)
abbrev lK:PE:=.ai .shr .u64 (.ai .shl .u64 r2 (.conv .u64 mN)) (.con (.v (.int .u64 32)))
abbrev Lz:PE:=.ai .quo .i64 (aD (.ai .mul .i64 (pi 5) (bn (.ai .rem .i64 (aD r0 (pi 730425)) (pi 146097)) (bn (aD (.ai .mul .i64 (pi 365) vH) (.ai .quo .i64 vH (pi 4))) (.ai .quo .i64 vH (pi 100))))) (pi 2)) (pi 153)
abbrev qg:PE:=.deref (.con (.ref (.agg [(.int 6),(.int 7),(.int 10),(.int 12),(.int 13),(.int 14),(.int 15),(.int 16),(.int 20),(.int 21)])))
abbrev ki:PE:=.setc z3 0 (.mk [(pc (.mk [r0]) 5),(pc (.mk [r0]) 6),(pc (.mk [r0]) 7)])
abbrev LH:PE:=.put (.put (.put (.put (.con (.map [])) (pi 7) (aH (.ai .and .i64 (pc o6 13) (pi 1)) (pi 0))) (pi 8) (ah (pc o6 2) (pi (-1)))) (pi 9) (aH (.ai .and .i64 (pc o6 13) (pi 4)) (pi 0))) (pi 10) (aH (.ai .and .i64 (pc o6 13) (pi 2)) (pi 0))
abbrev LK:PE:=.con (.agg [(.list []),(.list []),(.list []),(.list []),(.list []),(.list []),(.list []),(.list []),(.int 0),(.int 0),(.int 0),(.int 0),(.int 0),(.int 0),(.int 0),(.int 0),(.int 0),(.int 0),(.int 0),(.int 0),(.int 0),(.int 0),(.int 0),(.int 0),(.list []),(.list []),(.list []),(.list []),(.int 0),(.int 0),(.int 0)])
abbrev CP:PE:=.con (.agg [(.int 0),(.int 0),(.int 0),(.int 0),(.int 0),(.int 0),(.int 0),(.int 0),(.int 0),(.int 0),(.int 0),(.int 0),(.int 0),(.int 0),(.int 0),(.list []),(.list []),(.list []),(.list []),(.int 0),(.int 0),(.int 0),(.int 0),(.int 0)])
abbrev jO:PE:=.con (.v (.int .u64 4294967296))
abbrev ns:PE:=.con (.agg [(.bool false),(.int 0),(.int 0),(.list []),(.int 0)])
abbrev Sq:PE:=.mk [(pc (.mk [r0]) 10),(pc (.mk [r0]) 11),(pc (.mk [r0]) 12),(pc (.mk [r0]) 13),(pc (.mk [r0]) 14),(pc (.mk [r0]) 15),(pc (.mk [r0]) 16),(pc (.mk [r0]) 17),(pc (.mk [r0]) 18),(pc (.mk [r0]) 19),(pc (.mk [r0]) 20),(pc (.mk [r0]) 21),(pc (.mk [r0]) 22),(pc (.mk [r0]) 23),(pc (.mk [r0]) 24),(pc (.mk [r0]) 25),(pc (.mk [r0]) 26),(pc (.mk [r0]) 27),(pc (.mk [r0]) 28)]
abbrev tc:PE:=.con (.v (.int .u64 32))
abbrev iL:PE:=.setc (.setc fW 0 (af 19 o8)) 17 pN
abbrev lL:PE:=.con (.agg [(.int 0),(.int 0),(.list [])])
abbrev Sr:PE:=.con (.agg [(.list []),(.list []),(.list []),(.list []),(.list []),(.list []),(.list []),(.list []),(.int 0),(.int 0),(.int 0),(.int 0),(.int 0),(.int 0),(.int 0),(.int 0),(.int 0),(.int 0),(.int 0),(.int 0),(.int 0),(.int 0),(.int 0),(.int 0),(.int 0),(.list []),(.list []),(.list []),(.list []),(.int 0),(.int 0)])
abbrev cd:PE:=pi 4294967296
abbrev yr:PE:=.con (.agg [(.list []),(.list []),(.list []),(.list []),(.list []),(.list []),(.list []),(.list [])])
abbrev kj:PE:=.con (.agg [(.list []),(.int 0)])
abbrev vG:PE:=.con (.v (.int .u64 4294967295))
abbrev nu:PE:=.setc z9 0 (pn (pc (.mk [r1]) 15) r2)
abbrev yt:PE:=.mk [(pc (.setc cF 0 dP) 0),(pc (.setc cF 0 dP) 1)]
abbrev yu:PE:=.setc z9 0 (pn (pc (.mk [r2]) 15) (pc (.mk [r2]) 19))
abbrev agl:PE:=.mk [(pc (.mk [r0]) 9),(pc (.mk [r0]) 10),(pc (.mk [r0]) 11),(pc (.mk [r0]) 12),(pc (.mk [r0]) 13),(pc (.mk [r0]) 14),(pc (.mk [r0]) 15),(pc (.mk [r0]) 16),(pc (.mk [r0]) 17),(pc (.mk [r0]) 18),(pc (.mk [r0]) 19),(pc (.mk [r0]) 20),(pc (.mk [r0]) 21),(pc (.mk [r0]) 22),(pc (.mk [r0]) 23),(pc (.mk [r0]) 24),(pc (.mk [r0]) 25),(pc (.mk [r0]) 26),(pc (.mk [r0]) 27)]
abbrev jk:PE:=.setc (.mk [r3]) 18 pL
abbrev oR:PE:=.conv .u64 mN
abbrev Ss:PE:=.put (.put (.put (.con (.map [])) (pi 0) (pc o6 3)) (pi 1) (pc o6 14)) (pi 2) (pc o6 5)
abbrev LL:PE:=.pick (.pick (ah (.tget fG 0) (pi 0)) (pc bO 0) pF) (.setc bO 1 (.mn (.mx (pc bO 1) (pi 0)) (pi 20000))) bO
abbrev fX:PE:=af 8 (.mk [r0])
abbrev CR:PE:=.mk [(pc (.setc o4 0 (.mk [pF,(pi 0)])) 0),(pc (.setc o4 0 (.mk [pF,(pi 0)])) 1)]
abbrev CS:PE:=.con (.agg [(.int 0),(.int 0),(.int 0),(.int 0),(.int 0),(.int 0),(.bool false)])
abbrev lM:PE:=.con (.v (.int .u64 0))
abbrev LM:PE:=.con (.agg [(.int 0),(.int 0),(.bool false)])
abbrev LN:PE:=.ai .shr .u64 (.ai .sub .u64 (.ai .add .u64 (.ai .mul .u64 dB jO) cj) (.ai .mul .u64 cA r2)) r8
abbrev vI:PE:=.setc (.setc bO 3 (.tget CX 0)) 4 (.tget CX 1)
abbrev rC:PE:=.ai .shr .u64 r0 tc
abbrev LO:PE:=.con (.v (.int .u64 16))
abbrev nv:PE:=.con (.v (.int .u64 8))
abbrev LP:PE:=aD (bn (aD (.ai .mul .i64 (pi 12) (.tget eX 0)) (.tget eX 1)) (pi 1)) r1
abbrev kl:PE:=.setc jP 17 pN
abbrev vJ:PE:=pc (.mk [r0]) 2
abbrev rD:PE:=.setc z3 0 (pn (pc o2 18) r8)
abbrev rE:PE:=.setc z3 0 (pn (pc o2 18) r6)
abbrev jm:PE:=.setc o2 18 pN
abbrev lN:PE:=pi 1099511627776
abbrev ko:PE:=pc (.mk [r0]) 0
abbrev Su:PE:=.pick (aV cA jO) pT (aO (.ai .mul .u64 cA cf) (.ai .add .u64 (.ai .mul .u64 jO ct) cj))
abbrev Sv:PE:=.pick (aV bM jO) pT (aO (.ai .mul .u64 bM cf) (.ai .add .u64 (.ai .mul .u64 jO ct) bU))
abbrev LQ:PE:=.ai .sub .u64 qk (.ai .mul .u64 (.ai .quo .u64 qk lK) lK)
abbrev mJ:PE:=pc (.mk [r0]) 1
abbrev kQ:PE:=.llen (pc o1 1)
abbrev Sw:PE:=.mk [(pc (.setc o4 0 (.mk [(pi 0),(pi 0),pL])) 0),(pc (.setc o4 0 (.mk [(pi 0),(pi 0),pL])) 1),pL]
abbrev kS:PE:=pn bI cj
abbrev LR:PE:=.ai .sub .u64 qf (.ai .mul .u64 (.ai .quo .u64 qf r9) r9)
abbrev LS:PE:=aV (.ai .sub .u64 (.con (.v (.int .u64 64))) oR) (pi 0)
abbrev rF:PE:=pc (.mk [r1]) 1
abbrev rG:PE:=.mk [pF,(pi 0)]
abbrev mK:PE:=.llen (pc o1 3)
abbrev nw:PE:=pc (.mk [r0]) 15
abbrev agm:PE:=.app (.lst [(.mk [(pi 2),(pi 0),(pi 1),(pi 0),(pi (-1)),(pi 0),(pi 10),(pi 0),(pi 0)])]) (.lst [(.mk [(pi 4),(pi 0),(pi 1),(pi 0),(pi (-1)),(pi 0),r0,(pi 0),r1])])
abbrev Sy:PE:=af 5 (.setc o8 0 (.mk [(pc bO 0),(pc bO 1),(pc bO 2),(.o 16394),(pc bO 4)]))
abbrev yw:PE:=.mk [pT,(pi 9223372036854775807)]
abbrev ny:PE:=.llen (pc o3 2)
abbrev nz:PE:=.llen (pc o1 4)
abbrev agn:PE:=.pick (.pick (.pick (aj (pc yu 2) (pi 0)) pT (aV (pc yu 2) (.llen (pc (.mk [r0]) 3)))) pT (aj r1 (pi 0))) pT (aV r1 (.llen (pc (.mk [r0]) 4)))
abbrev Sz:PE:=.put (.con (.map [])) (pi 7) (aH (.ai .and .i64 (pc o6 13) (pi 1)) (pi 0))
abbrev CT:PE:=.ai .shl .u64 r2 oR
abbrev ago:PE:=.ai .shl .u64 r1 oR
abbrev agp:PE:=.ai .add .u64 (.ai .mul .u64 rC (.ai .and .u64 r1 vG)) (.ai .shr .u64 (.ai .mul .u64 (.ai .and .u64 r0 vG) (.ai .and .u64 r1 vG)) tc)
abbrev CU:PE:=.setc z9 0 (pn (pc (.mk [r0]) 25) r1)
abbrev agq:PE:=.pick (.pick (ah (.tget gu 0) lM) (aj (.tget gu 1) (.con (.v (.int .u64 1099511627776)))) pF) (.conv .i64 (.tget gu 1)) lN
abbrev oS:PE:=.setc z4 0 kV
abbrev CV:PE:=bn (pi 2) (pc (pn o7 (pi 0)) 1)
abbrev LU:PE:=.setc lL 0 (.sub (pn (pc o2 3) eX) 1 3)
abbrev ql:PE:=.llen (pc o1 2)
abbrev agr:PE:=.app o2 (.lst [(pc (.setc (.con (.agg [(.v (.string ⟨#[]⟩)),(.int 0),(.int 0),(.list []),(.list []),(.list [])])) 0 kS) 0)])
abbrev LV:PE:=.ai .add .u64 (.ai .mul .u64 bM jO) cA
abbrev SA:PE:=.ai .mul .u64 (.conv .u64 rF) (.conv .u64 (pc (.mk [r2]) 1))
abbrev ags:PE:=.pick (.pick (ah (pc (.setc z5 0 kS) 0) r1) (ah (pc (.setc z5 0 kS) 1) r2) pF) (aW (pc (.setc z5 0 kS) 4) r3) pF
abbrev agt:PE:=.pick (.pick (ah (pc (.setc z3 0 kS) 0) r1) (aW (pc (.setc z3 0 kS) 1) r2) pF) (aW r2 (pc (.setc z3 0 kS) 2)) pF
abbrev mL:PE:=aj cj bU
abbrev vK:PE:=.setc z3 0 (pn r1 r5)
abbrev LX:PE:=.pick (aj r1 (pi 3)) (bn r0 (pi 1)) r0
abbrev agu:PE:=.app o4 (.lst [(pc (.setc (.con (.agg [(.v (.string ⟨#[]⟩)),(.bool false),(.list []),(.list [])])) 0 (pn jo nA)) 0)])
abbrev qm:PE:=aD r8 (pi 1)
abbrev agv:PE:=.put (.put (.put LH (pi 11) (aH SG SH)) (pi 12) bU) (pi 13) (aH (.ai .and .i64 (pc o8 8) (pi 1)) (pi 0))
abbrev rH:PE:=pc (.mk [r1]) 0
abbrev SB:PE:=.mk [(pc (.setc o6 0 rG) 0),(pc (.setc o6 0 rG) 1)]
abbrev agw:PE:=.setc z2 0 (.mk [(.pick r0 (bn (pi 0) (.conv .i64 rF)) (.conv .i64 rF)),(.conv .i64 (pc (.mk [r2]) 1))])
abbrev oT:PE:=pn r1 (pi 1)
abbrev SC:PE:=.app (.app (.lst []) (pc o8 17)) (.lst [(af 9 kO)])
abbrev Si:PE:=.put (.put Ss (pi 3) (pc o6 12)) (pi 4) (pc o8 0)
abbrev af8:PE:=.pick (aO (.llen (pc (pn (pc o1 1) r3) 4)) (pi 70)) pT (aO (.llen (pc (pn (pc o1 1) r3) 5)) (pi 210))
abbrev CI:PE:=.setc LM 0 (pn eX gU)
abbrev oQ:PE:=.llen vJ
abbrev af9:PE:=.app o3 (.lst [(pc (.setc (.con (.agg [(.v (.string ⟨#[]⟩)),(.int 0),(.int 0)])) 0 (pn gU dP)) 0)])
abbrev aga:PE:=.app o4 (.lst [(pc (.setc (.con (.agg [(.int 0),(.int 0),(.int 0),(.list [])])) 0 (pn dP kr)) 0)])
abbrev sZ:PE:=.llen (pc o1 0)
abbrev agb:PE:=.an (.cb .eql (pc (pn r1 (pi 0)) 0) (pc yt 0)) (.an (ah (pc (pn r1 (pi 0)) 1) (pc yt 1)) pT)
abbrev agc:PE:=.app (.o 69637) (.lst [(.mk [(pc (.setc z2 0 (pn qo oV)) 0),(pc (.setc z2 0 (pn qo oV)) 1)])])
abbrev vz:PE:=af 19 (.mk [r2])
abbrev CJ:PE:=.ai .shr .u64 rC LO
abbrev yn:PE:=.ai .add .u64 ct r9
abbrev Sj:PE:=pc (pn mJ (pc (pn (pc (.mk [r0]) 3) r2) 1)) 2
abbrev agd:PE:=.setc o6 0 (.mk [pT,(.pick (aH (.tget td 1) (pi 0)) (pi 9223372036854775807) (.tget td 0))])
abbrev Sk:PE:=.setc o4 0 (.mk [(pc o9 0),(pc o9 1),(pc o9 2)])
abbrev Sl:PE:=.setc (.setc o6 4 (.tget kU 0)) 5 (.tget kU 1)
abbrev Ly:PE:=.setc z2 0 (.mk [(pi 0),(pi 0)])
abbrev age:PE:=.pick (aO (aD Lz (pi 3)) (pi 12)) (bn (aD Lz (pi 3)) (pi 12)) (aD Lz (pi 3))
abbrev agf:PE:=.pick (.nt (.nt (.an (.an cj pT) (.nt pF)))) (.app (.o 1000) (.lst [(.tup [r5])])) (.o 1000)
abbrev s9:PE:=aD r3 (pi 1)
abbrev yo:PE:=aH (pi 100) (pi 0)
abbrev vA:PE:=.llen (pc o2 18)
abbrev agh:PE:=.setc o4 0 (.mk [(pc (.setc cF 0 (.tget fY 0)) 0),(pc (.setc cF 0 (.tget fY 0)) 1)])
abbrev CK:PE:=.setc z9 0 (pn SI gJ)
abbrev CL:PE:=.setc z9 0 (pn jQ fG)
abbrev CM:PE:=.con (.v (.int .u64 1))
abbrev LA:PE:=.setc cF 0 (.mk [pT,(pi 1)])
abbrev LB:PE:=.setc cF 0 (.mk [pT,(pi 0)])
abbrev agi:PE:=.setc o8 0 (.mk [(pc (.setc z2 0 (.tget L3 0)) 0),(pc (.setc z2 0 (.tget L3 0)) 1)])
abbrev LD:PE:=bn (.llen (pc o3 3)) (pi 1)
abbrev vB:PE:=pn (pc o1 4) r4
abbrev Sm:PE:=ah (.sidx r0 r3) (.con (.v (.int .u8 95)))
abbrev vC:PE:=pc (.mk [r0]) 5
abbrev vD:PE:=.llen (pc o1 7)
abbrev CN:PE:=.con (.agg [(.int 0)])
abbrev CO:PE:=.ai .shr .u64 r0 LO
abbrev agj:PE:=aD vH (.ai .mul .i64 (pi 400) (.ai .quo .i64 (aD r0 (pi 730425)) (pi 146097)))
abbrev Sn:PE:=aD (pc o1 17) (pc (.setc ns 0 bI) 1)
abbrev qh:PE:=pn cj ct
abbrev qj:PE:=pn bp bU
abbrev So:PE:=.app o5 (.lst [(pc (pn (pc o1 1) r6) 0)])
abbrev Sp:PE:=.app o4 (.lst [(pc (pn (pc o1 3) r5) 0)])
abbrev vE:PE:=aD r5 (pi 1)
abbrev vF:PE:=.setc z7 0 vM
abbrev yp:PE:=aV tc (pi 0)
abbrev yq:PE:=pc (.mk [r0]) 18
abbrev rB:PE:=pn cf bI
abbrev agk:PE:=.pick (.pick (.nt kp) pT (aj r3 (pi 0))) pT (aV r3 (.llen (pc o7 15)))
abbrev LF:PE:=.con (.v (.int .u64 256))
abbrev LG:PE:=.ai .shr .u64 ago tc
abbrev LI:PE:=.ai .and .u64 ago vG
abbrev LJ:PE:=.ai .and .u64 CT vG
end Rm
