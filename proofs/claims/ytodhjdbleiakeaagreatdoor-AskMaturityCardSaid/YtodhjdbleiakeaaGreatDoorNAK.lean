/-
  Shared texts of this claim.
-/
import Derived.Test.YtodhjdbleiakeaaGreatDoorNAJ
import Derived.Test.YtodhjdbleiakeaaGreatDoorProg
set_option linter.unusedSimpArgs false
set_option linter.unusedVariables false
namespace Rm
open Go Cx
abbrev str (b:ByteArray):D:=.v (.string b)
def strs (l:List ByteArray):D:=.list (l.map str)
@[simp] theorem aBz (l:List ByteArray):(strs l).l=l.map str:=_root_.id rfl
theorem str_inv {d:D}(h:DTy .str d):∃b,d=str b:=by
 cases h with
 |str b=>exact⟨b,rfl⟩
 |other t d h=>exact h.elim
theorem aBy {d:D}(h:DTy (.slice .str) d):∃l:List ByteArray,d=strs l∧l.length≤maxLen:=by
 obtain⟨xs,rfl,hm,hx⟩:=h.slice_inv;obtain⟨l,rfl,hl⟩:=jV (enc:=str) (P:=fun _=>True) fun x hh=>(str_inv (hx x hh)).imp fun b hb=>⟨hb,trivial⟩
 exact⟨l,rfl,by simpa using hm⟩
@[simp] theorem aGB (t:Tm):(dF t).cells=[.int t.op,.int t.n,.list (t.args.map dF)]:=by rw[Ce];rfl
@[simp] theorem aGC (t:Tm):D.agg [.int t.op,.int t.n,.list (t.args.map dF)]=dF t:=(Ce t).symm
@[simp] theorem aGy (t:Tm):(dF t).c 0=.int t.op:=by rw[Ce];rfl
@[simp] theorem aGz (t:Tm):(dF t).c 1=.int t.n:=by rw[Ce];rfl
@[simp] theorem aGA (t:Tm):(dF t).c 2=.list (t.args.map dF):=by rw[Ce];rfl
structure City where
 name:ByteArray
 order:Int
 currency:Int
 rest:List Int
 feasts:List Int
 shut:List Int
 deriving Inhabited
def fF (x:City):D:=.agg [str x.name,.int x.order,.int x.currency,ints x.rest,ints x.feasts,ints x.shut]
@[simp] theorem aFu (x:City):(fF x).cells=[str x.name,.int x.order,.int x.currency,ints x.rest,ints x.feasts,ints x.shut]:=_root_.id rfl
@[simp] theorem aJI (x:City):D.agg [str x.name,.int x.order,.int x.currency,ints x.rest,ints x.feasts,ints x.shut]=fF x:=_root_.id rfl
@[simp] theorem aGU (x:City):j6 6 (fF x)=fF x:=_root_.id rfl
@[simp] theorem aFo (x:City):(fF x).c 0=str x.name:=_root_.id rfl
@[simp] theorem aFp (x:City):(fF x).c 1=.int x.order:=_root_.id rfl
@[simp] theorem aFq (x:City):(fF x).c 2=.int x.currency:=_root_.id rfl
@[simp] theorem aFr (x:City):(fF x).c 3=ints x.rest:=_root_.id rfl
@[simp] theorem aFs (x:City):(fF x).c 4=ints x.feasts:=_root_.id rfl
@[simp] theorem aFt (x:City):(fF x).c 5=ints x.shut:=_root_.id rfl
def uX (l:List City):D:=.list (l.map fF)
@[simp] theorem aHl (l:List City):(uX l).l=l.map fF:=_root_.id rfl
abbrev WO:Ty:=.agg [.str,.int .i64,.int .i64,.slice (.int .i64),.slice (.int .i64),.slice (.int .i64)]
def City.OK (x:City):Prop:=bj x.order∧bj x.currency∧(x.rest.length≤maxLen∧∀y,y∈x.rest→bj y)∧(x.feasts.length≤maxLen∧∀y,y∈x.feasts→bj y)∧(x.shut.length≤maxLen∧∀y,y∈x.shut→bj y)
theorem aog {d:D}(h:DTy WO d):∃x:City,d=fF x∧x.OK:=by
 obtain⟨ds,rfl,hs⟩:=h.agg_inv;obtain⟨d0,ds,rfl,h0,hs⟩:=hs.cons_inv;obtain⟨d1,ds,rfl,h1,hs⟩:=hs.cons_inv;obtain⟨d2,ds,rfl,h2,hs⟩:=hs.cons_inv;obtain⟨d3,ds,rfl,h3,hs⟩:=hs.cons_inv;obtain⟨d4,ds,rfl,h4,hs⟩:=hs.cons_inv;obtain⟨d5,ds,rfl,h5,hs⟩:=hs.cons_inv;obtain rfl:=hs.nil_inv;obtain⟨n0,rfl⟩:=str_inv h0;obtain⟨n1,rfl,b1⟩:=h1.i64_inv;obtain⟨n2,rfl,b2⟩:=h2.i64_inv;obtain⟨n3,rfl,b3,c3⟩:=h3.ints_inv;obtain⟨n4,rfl,b4,c4⟩:=h4.ints_inv;obtain⟨n5,rfl,b5,c5⟩:=h5.ints_inv;exact⟨⟨n0,n1,n2,n3,n4,n5⟩,rfl,⟨b1,b2,⟨b3,c3⟩,⟨b4,c4⟩,⟨b5,c5⟩⟩⟩
theorem aoh {d:D}(h:DTy (.slice WO) d):∃l:List City,d=uX l∧l.length≤maxLen∧∀y,y∈l→City.OK y:=by
 obtain⟨xs,rfl,hm,hx⟩:=h.slice_inv;obtain⟨l,rfl,hl⟩:=jV (enc:=fF) (P:=City.OK) fun x hh=>aog (hx x hh);exact⟨l,rfl,by simpa using hm,hl⟩
structure Firm where
 name:ByteArray
 city:Int
 group:Int
 deriving Inhabited
def rv (x:Firm):D:=.agg [str x.name,.int x.city,.int x.group]
@[simp] theorem aFM (x:Firm):(rv x).cells=[str x.name,.int x.city,.int x.group]:=_root_.id rfl
@[simp] theorem aJL (x:Firm):D.agg [str x.name,.int x.city,.int x.group]=rv x:=_root_.id rfl
@[simp] theorem aFJ (x:Firm):(rv x).c 0=str x.name:=_root_.id rfl
@[simp] theorem aFK (x:Firm):(rv x).c 1=.int x.city:=_root_.id rfl
@[simp] theorem aFL (x:Firm):(rv x).c 2=.int x.group:=_root_.id rfl
def firms (l:List Firm):D:=.list (l.map rv)
@[simp] theorem aIy (l:List Firm):(firms l).l=l.map rv:=_root_.id rfl
abbrev WR:Ty:=.agg [.str,.int .i64,.int .i64]
def Firm.OK (x:Firm):Prop:=bj x.city∧bj x.group
theorem apR {d:D}(h:DTy WR d):∃x:Firm,d=rv x∧x.OK:=by
 obtain⟨ds,rfl,hs⟩:=h.agg_inv;obtain⟨d0,ds,rfl,h0,hs⟩:=hs.cons_inv;obtain⟨d1,ds,rfl,h1,hs⟩:=hs.cons_inv;obtain⟨d2,ds,rfl,h2,hs⟩:=hs.cons_inv;obtain rfl:=hs.nil_inv;obtain⟨n0,rfl⟩:=str_inv h0;obtain⟨n1,rfl,b1⟩:=h1.i64_inv;obtain⟨n2,rfl,b2⟩:=h2.i64_inv;exact⟨⟨n0,n1,n2⟩,rfl,⟨b1,b2⟩⟩
theorem apS {d:D}(h:DTy (.slice WR) d):∃l:List Firm,d=firms l∧l.length≤maxLen∧∀y,y∈l→Firm.OK y:=by
 obtain⟨xs,rfl,hm,hx⟩:=h.slice_inv;obtain⟨l,rfl,hl⟩:=jV (enc:=rv) (P:=Firm.OK) fun x hh=>apR (hx x hh);exact⟨l,rfl,by simpa using hm,hl⟩
structure Group where
 grade:Int
 deriving DecidableEq,Inhabited
def va (x:Group):D:=.agg [.int x.grade]
@[simp] theorem aFO (x:Group):(va x).cells=[.int x.grade]:=_root_.id rfl
@[simp] theorem aJM (x:Group):D.agg [.int x.grade]=va x:=_root_.id rfl
@[simp] theorem aFN (x:Group):(va x).c 0=.int x.grade:=_root_.id rfl
def groups (l:List Group):D:=.list (l.map va)
@[simp] theorem aIG (l:List Group):(groups l).l=l.map va:=_root_.id rfl
abbrev WS:Ty:=.agg [.int .i64]
def Group.OK (x:Group):Prop:=bj x.grade
theorem asE {d:D}(h:DTy WS d):∃x:Group,d=va x∧x.OK:=by
 obtain⟨ds,rfl,hs⟩:=h.agg_inv;obtain⟨d0,ds,rfl,h0,hs⟩:=hs.cons_inv;obtain rfl:=hs.nil_inv;obtain⟨n0,rfl,b0⟩:=h0.i64_inv;exact⟨⟨n0⟩,rfl,b0⟩
theorem asF {d:D}(h:DTy (.slice WS) d):∃l:List Group,d=groups l∧l.length≤maxLen∧∀y,y∈l→Group.OK y:=by
 obtain⟨xs,rfl,hm,hx⟩:=h.slice_inv;obtain⟨l,rfl,hl⟩:=jV (enc:=va) (P:=Group.OK) fun x hh=>asE (hx x hh);exact⟨l,rfl,by simpa using hm,hl⟩
structure Usance where
 fr:Int
 to:Int
 days:Int
 deriving DecidableEq,Inhabited
def rA (x:Usance):D:=.agg [.int x.fr,.int x.to,.int x.days]
@[simp] theorem aGL (x:Usance):(rA x).cells=[.int x.fr,.int x.to,.int x.days]:=_root_.id rfl
@[simp] theorem aJW (x:Usance):D.agg [.int x.fr,.int x.to,.int x.days]=rA x:=_root_.id rfl
@[simp] theorem aGI (x:Usance):(rA x).c 0=.int x.fr:=_root_.id rfl
@[simp] theorem aGJ (x:Usance):(rA x).c 1=.int x.to:=_root_.id rfl
@[simp] theorem aGK (x:Usance):(rA x).c 2=.int x.days:=_root_.id rfl
def usances (l:List Usance):D:=.list (l.map rA)
@[simp] theorem aK2 (l:List Usance):(usances l).l=l.map rA:=_root_.id rfl
abbrev WY:Ty:=.agg [.int .i64,.int .i64,.int .i64]
def Usance.OK (x:Usance):Prop:=bj x.fr∧bj x.to∧bj x.days
theorem aD9 {d:D}(h:DTy WY d):∃x:Usance,d=rA x∧x.OK:=by
 obtain⟨ds,rfl,hs⟩:=h.agg_inv;obtain⟨d0,ds,rfl,h0,hs⟩:=hs.cons_inv;obtain⟨d1,ds,rfl,h1,hs⟩:=hs.cons_inv;obtain⟨d2,ds,rfl,h2,hs⟩:=hs.cons_inv;obtain rfl:=hs.nil_inv;obtain⟨n0,rfl,b0⟩:=h0.i64_inv;obtain⟨n1,rfl,b1⟩:=h1.i64_inv;obtain⟨n2,rfl,b2⟩:=h2.i64_inv;exact⟨⟨n0,n1,n2⟩,rfl,⟨b0,b1,b2⟩⟩
theorem aEa {d:D}(h:DTy (.slice WY) d):∃l:List Usance,d=usances l∧l.length≤maxLen∧∀y,y∈l→Usance.OK y:=by
 obtain⟨xs,rfl,hm,hx⟩:=h.slice_inv;obtain⟨l,rfl,hl⟩:=jV (enc:=rA) (P:=Usance.OK) fun x hh=>aD9 (hx x hh);exact⟨l,rfl,by simpa using hm,hl⟩
structure Rate where
 fr:Int
 to:Int
 num:Int
 den:Int
 since:Int
 deriving DecidableEq,Inhabited
def oM (x:Rate):D:=.agg [.int x.fr,.int x.to,.int x.num,.int x.den,.int x.since]
@[simp] theorem aF3 (x:Rate):(oM x).cells=[.int x.fr,.int x.to,.int x.num,.int x.den,.int x.since]:=_root_.id rfl
@[simp] theorem aJP (x:Rate):D.agg [.int x.fr,.int x.to,.int x.num,.int x.den,.int x.since]=oM x:=_root_.id rfl
@[simp] theorem aFY (x:Rate):(oM x).c 0=.int x.fr:=_root_.id rfl
@[simp] theorem aFZ (x:Rate):(oM x).c 1=.int x.to:=_root_.id rfl
@[simp] theorem aF0 (x:Rate):(oM x).c 2=.int x.num:=_root_.id rfl
@[simp] theorem aF1 (x:Rate):(oM x).c 3=.int x.den:=_root_.id rfl
@[simp] theorem aF2 (x:Rate):(oM x).c 4=.int x.since:=_root_.id rfl
def rates (l:List Rate):D:=.list (l.map oM)
@[simp] theorem aKu (l:List Rate):(rates l).l=l.map oM:=_root_.id rfl
abbrev WV:Ty:=.agg [.int .i64,.int .i64,.int .i64,.int .i64,.int .i64]
def Rate.OK (x:Rate):Prop:=bj x.fr∧bj x.to∧bj x.num∧bj x.den∧bj x.since
theorem aAv {d:D}(h:DTy WV d):∃x:Rate,d=oM x∧x.OK:=by
 obtain⟨ds,rfl,hs⟩:=h.agg_inv;obtain⟨d0,ds,rfl,h0,hs⟩:=hs.cons_inv;obtain⟨d1,ds,rfl,h1,hs⟩:=hs.cons_inv;obtain⟨d2,ds,rfl,h2,hs⟩:=hs.cons_inv;obtain⟨d3,ds,rfl,h3,hs⟩:=hs.cons_inv;obtain⟨d4,ds,rfl,h4,hs⟩:=hs.cons_inv;obtain rfl:=hs.nil_inv;obtain⟨n0,rfl,b0⟩:=h0.i64_inv;obtain⟨n1,rfl,b1⟩:=h1.i64_inv;obtain⟨n2,rfl,b2⟩:=h2.i64_inv;obtain⟨n3,rfl,b3⟩:=h3.i64_inv;obtain⟨n4,rfl,b4⟩:=h4.i64_inv;exact⟨⟨n0,n1,n2,n3,n4⟩,rfl,⟨b0,b1,b2,b3,b4⟩⟩
theorem aAw {d:D}(h:DTy (.slice WV) d):∃l:List Rate,d=rates l∧l.length≤maxLen∧∀y,y∈l→Rate.OK y:=by
 obtain⟨xs,rfl,hm,hx⟩:=h.slice_inv;obtain⟨l,rfl,hl⟩:=jV (enc:=oM) (P:=Rate.OK) fun x hh=>aAv (hx x hh);exact⟨l,rfl,by simpa using hm,hl⟩
structure Halt where
 order:Int
 fr:Int
 to:Int
 deriving DecidableEq,Inhabited
def ry (x:Halt):D:=.agg [.int x.order,.int x.fr,.int x.to]
@[simp] theorem aFS (x:Halt):(ry x).cells=[.int x.order,.int x.fr,.int x.to]:=_root_.id rfl
@[simp] theorem aJN (x:Halt):D.agg [.int x.order,.int x.fr,.int x.to]=ry x:=_root_.id rfl
@[simp] theorem aFP (x:Halt):(ry x).c 0=.int x.order:=_root_.id rfl
@[simp] theorem aFQ (x:Halt):(ry x).c 1=.int x.fr:=_root_.id rfl
@[simp] theorem aFR (x:Halt):(ry x).c 2=.int x.to:=_root_.id rfl
def halts (l:List Halt):D:=.list (l.map ry)
@[simp] theorem aIO (l:List Halt):(halts l).l=l.map ry:=_root_.id rfl
abbrev WT:Ty:=.agg [.int .i64,.int .i64,.int .i64]
def Halt.OK (x:Halt):Prop:=bj x.order∧bj x.fr∧bj x.to
theorem as6 {d:D}(h:DTy WT d):∃x:Halt,d=ry x∧x.OK:=by
 obtain⟨ds,rfl,hs⟩:=h.agg_inv;obtain⟨d0,ds,rfl,h0,hs⟩:=hs.cons_inv;obtain⟨d1,ds,rfl,h1,hs⟩:=hs.cons_inv;obtain⟨d2,ds,rfl,h2,hs⟩:=hs.cons_inv;obtain rfl:=hs.nil_inv;obtain⟨n0,rfl,b0⟩:=h0.i64_inv;obtain⟨n1,rfl,b1⟩:=h1.i64_inv;obtain⟨n2,rfl,b2⟩:=h2.i64_inv;exact⟨⟨n0,n1,n2⟩,rfl,⟨b0,b1,b2⟩⟩
theorem as7 {d:D}(h:DTy (.slice WT) d):∃l:List Halt,d=halts l∧l.length≤maxLen∧∀y,y∈l→Halt.OK y:=by
 obtain⟨xs,rfl,hm,hx⟩:=h.slice_inv;obtain⟨l,rfl,hl⟩:=jV (enc:=ry) (P:=Halt.OK) fun x hh=>as6 (hx x hh);exact⟨l,rfl,by simpa using hm,hl⟩
structure Choice where
 ask:Int
 by_:Int
 whole:Bool
 deriving DecidableEq,Inhabited
def sV (x:Choice):D:=.agg [.int x.ask,.int x.by_,.bool x.whole]
@[simp] theorem aFn (x:Choice):(sV x).cells=[.int x.ask,.int x.by_,.bool x.whole]:=_root_.id rfl
@[simp] theorem aJH (x:Choice):D.agg [.int x.ask,.int x.by_,.bool x.whole]=sV x:=_root_.id rfl
@[simp] theorem aFl (x:Choice):(sV x).c 0=.int x.ask:=_root_.id rfl
@[simp] theorem aFm (x:Choice):(sV x).c 1=.int x.by_:=_root_.id rfl
def choices (l:List Choice):D:=.list (l.map sV)
@[simp] theorem aHk (l:List Choice):(choices l).l=l.map sV:=_root_.id rfl
abbrev WN:Ty:=.agg [.int .i64,.int .i64,.bool]
def Choice.OK (x:Choice):Prop:=bj x.ask∧bj x.by_
theorem aod {d:D}(h:DTy WN d):∃x:Choice,d=sV x∧x.OK:=by
 obtain⟨ds,rfl,hs⟩:=h.agg_inv;obtain⟨d0,ds,rfl,h0,hs⟩:=hs.cons_inv;obtain⟨d1,ds,rfl,h1,hs⟩:=hs.cons_inv;obtain⟨d2,ds,rfl,h2,hs⟩:=hs.cons_inv;obtain rfl:=hs.nil_inv;obtain⟨n0,rfl,b0⟩:=h0.i64_inv;obtain⟨n1,rfl,b1⟩:=h1.i64_inv;obtain⟨n2,rfl⟩:=h2.bool_inv;exact⟨⟨n0,n1,n2⟩,rfl,⟨b0,b1⟩⟩
theorem aoe {d:D}(h:DTy (.slice WN) d):∃l:List Choice,d=choices l∧l.length≤maxLen∧∀y,y∈l→Choice.OK y:=by
 obtain⟨xs,rfl,hm,hx⟩:=h.slice_inv;obtain⟨l,rfl,hl⟩:=jV (enc:=sV) (P:=Choice.OK) fun x hh=>aod (hx x hh);exact⟨l,rfl,by simpa using hm,hl⟩
structure Rule where
 ask:Int
 term:Tm
 deriving Inhabited
def rz (x:Rule):D:=.agg [.int x.ask,.int x.term.op,.int x.term.n,.list (x.term.args.map dF)]
@[simp] theorem aGe (x:Rule):(rz x).cells=[.int x.ask,.int x.term.op,.int x.term.n,.list (x.term.args.map dF)]:=_root_.id rfl
@[simp] theorem aJR (x:Rule):D.agg [.int x.ask,.int x.term.op,.int x.term.n,.list (x.term.args.map dF)]=rz x:=_root_.id rfl
@[simp] theorem aGd (x:Rule):(rz x).c 0=.int x.ask:=_root_.id rfl
def rules (l:List Rule):D:=.list (l.map rz)
@[simp] theorem aKy (l:List Rule):(rules l).l=l.map rz:=_root_.id rfl
abbrev WW:Ty:=.agg [.int .i64,.int .i64,.int .i64,.slice .trm]
def Rule.OK (x:Rule):Prop:=bj x.ask∧Tm.OK x.term
theorem aA7 {d:D}(h:DTy WW d):∃x:Rule,d=rz x∧x.OK:=by
 obtain⟨ds,rfl,hs⟩:=h.agg_inv;obtain⟨d0,ds,rfl,h0,hs⟩:=hs.cons_inv;obtain⟨d1,ds,rfl,h1,hs⟩:=hs.cons_inv;obtain⟨d2,ds,rfl,h2,hs⟩:=hs.cons_inv;obtain⟨d3,ds,rfl,h3,hs⟩:=hs.cons_inv;obtain rfl:=hs.nil_inv;obtain⟨n0,rfl,b0⟩:=h0.i64_inv;obtain⟨n1,rfl,b1⟩:=h1.i64_inv;obtain⟨n2,rfl,b2⟩:=h2.i64_inv;obtain⟨n3,rfl,b3,c3⟩:=h3.trms_inv;exact⟨⟨n0,.mk n1 n2 n3⟩,rfl,⟨b0,.mk _ _ _ b1 b2 b3 c3⟩⟩
theorem aA8 {d:D}(h:DTy (.slice WW) d):∃l:List Rule,d=rules l∧l.length≤maxLen∧∀y,y∈l→Rule.OK y:=by
 obtain⟨xs,rfl,hm,hx⟩:=h.slice_inv;obtain⟨l,rfl,hl⟩:=jV (enc:=rz) (P:=Rule.OK) fun x hh=>aA7 (hx x hh);exact⟨l,rfl,by simpa using hm,hl⟩
structure Order where
 name:ByteArray
 accepts:Bool
 choices:List Choice
 rules:List Rule
 deriving Inhabited
def iJ (x:Order):D:=.agg [str x.name,.bool x.accepts,choices x.choices,rules x.rules]
@[simp] theorem aFX (x:Order):(iJ x).cells=[str x.name,.bool x.accepts,choices x.choices,rules x.rules]:=_root_.id rfl
@[simp] theorem aJO (x:Order):D.agg [str x.name,.bool x.accepts,choices x.choices,rules x.rules]=iJ x:=_root_.id rfl
@[simp] theorem aGW (x:Order):j6 4 (iJ x)=iJ x:=_root_.id rfl
@[simp] theorem aFT (x:Order):(iJ x).c 0=str x.name:=_root_.id rfl
@[simp] theorem aFU (x:Order):(iJ x).c 1=.bool x.accepts:=_root_.id rfl
@[simp] theorem aFV (x:Order):(iJ x).c 2=choices x.choices:=_root_.id rfl
@[simp] theorem aFW (x:Order):(iJ x).c 3=rules x.rules:=_root_.id rfl
def orders (l:List Order):D:=.list (l.map iJ)
@[simp] theorem aKb (l:List Order):(orders l).l=l.map iJ:=_root_.id rfl
abbrev WU:Ty:=.agg [.str,.bool,.slice WN,.slice WW]
def Order.OK (x:Order):Prop:=(x.choices.length≤maxLen∧∀y,y∈x.choices→Choice.OK y)∧(x.rules.length≤maxLen∧∀y,y∈x.rules→Rule.OK y)
theorem azE {d:D}(h:DTy WU d):∃x:Order,d=iJ x∧x.OK:=by
 obtain⟨ds,rfl,hs⟩:=h.agg_inv;obtain⟨d0,ds,rfl,h0,hs⟩:=hs.cons_inv;obtain⟨d1,ds,rfl,h1,hs⟩:=hs.cons_inv;obtain⟨d2,ds,rfl,h2,hs⟩:=hs.cons_inv;obtain⟨d3,ds,rfl,h3,hs⟩:=hs.cons_inv;obtain rfl:=hs.nil_inv;obtain⟨n0,rfl⟩:=str_inv h0;obtain⟨n1,rfl⟩:=h1.bool_inv;obtain⟨n2,rfl,b2,c2⟩:=aoe h2;obtain⟨n3,rfl,b3,c3⟩:=aA8 h3;exact⟨⟨n0,n1,n2,n3⟩,rfl,⟨⟨b2,c2⟩,⟨b3,c3⟩⟩⟩
theorem azF {d:D}(h:DTy (.slice WU) d):∃l:List Order,d=orders l∧l.length≤maxLen∧∀y,y∈l→Order.OK y:=by
 obtain⟨xs,rfl,hm,hx⟩:=h.slice_inv;obtain⟨l,rfl,hl⟩:=jV (enc:=iJ) (P:=Order.OK) fun x hh=>azE (hx x hh);exact⟨l,rfl,by simpa using hm,hl⟩
structure Realm where
 currencies:List ByteArray
 cities:List City
 groups:List Group
 firms:List Firm
 orders:List Order
 usances:List Usance
 rates:List Rate
 halts:List Halt
 deriving Inhabited
def bl (x:Realm):D:=.agg [strs x.currencies,uX x.cities,groups x.groups,firms x.firms,orders x.orders,usances x.usances,rates x.rates,halts x.halts]
@[simp] theorem aGc (x:Realm):(bl x).cells=[strs x.currencies,uX x.cities,groups x.groups,firms x.firms,orders x.orders,usances x.usances,rates x.rates,halts x.halts]:=_root_.id rfl
@[simp] theorem aJQ (x:Realm):D.agg [strs x.currencies,uX x.cities,groups x.groups,firms x.firms,orders x.orders,usances x.usances,rates x.rates,halts x.halts]=bl x:=_root_.id rfl
@[simp] theorem aGX (x:Realm):j6 8 (bl x)=bl x:=_root_.id rfl
@[simp] theorem aKf (x:Realm)(a0 a1 a2 a3 a4 a5 a6 a7:D):D.agg (eh [a0,a1,a2,a3,a4,a5,a6,a7] 0 [strs x.currencies,uX x.cities,groups x.groups,firms x.firms,orders x.orders,usances x.usances,rates x.rates,halts x.halts])=bl x:=_root_.id rfl
@[simp] theorem aF4 (x:Realm):(bl x).c 0=strs x.currencies:=_root_.id rfl
@[simp] theorem aF5 (x:Realm):(bl x).c 1=uX x.cities:=_root_.id rfl
@[simp] theorem aF6 (x:Realm):(bl x).c 2=groups x.groups:=_root_.id rfl
@[simp] theorem aF7 (x:Realm):(bl x).c 3=firms x.firms:=_root_.id rfl
@[simp] theorem aF8 (x:Realm):(bl x).c 4=orders x.orders:=_root_.id rfl
@[simp] theorem aF9 (x:Realm):(bl x).c 5=usances x.usances:=_root_.id rfl
@[simp] theorem aGa (x:Realm):(bl x).c 6=rates x.rates:=_root_.id rfl
@[simp] theorem aGb (x:Realm):(bl x).c 7=halts x.halts:=_root_.id rfl
abbrev aD1:Ty:=.agg [.slice .str,.slice WO,.slice WS,.slice WR,.slice WU,.slice WY,.slice WV,.slice WT]
def Realm.OK (x:Realm):Prop:=x.currencies.length≤maxLen∧(x.cities.length≤maxLen∧∀y,y∈x.cities→City.OK y)∧(x.groups.length≤maxLen∧∀y,y∈x.groups→Group.OK y)∧(x.firms.length≤maxLen∧∀y,y∈x.firms→Firm.OK y)∧(x.orders.length≤maxLen∧∀y,y∈x.orders→Order.OK y)∧(x.usances.length≤maxLen∧∀y,y∈x.usances→Usance.OK y)∧(x.rates.length≤maxLen∧∀y,y∈x.rates→Rate.OK y)∧(x.halts.length≤maxLen∧∀y,y∈x.halts→Halt.OK y)
theorem aAK {d:D}(h:DTy aD1 d):∃x:Realm,d=bl x∧x.OK:=by
 obtain⟨ds,rfl,hs⟩:=h.agg_inv;obtain⟨d0,ds,rfl,h0,hs⟩:=hs.cons_inv;obtain⟨d1,ds,rfl,h1,hs⟩:=hs.cons_inv;obtain⟨d2,ds,rfl,h2,hs⟩:=hs.cons_inv;obtain⟨d3,ds,rfl,h3,hs⟩:=hs.cons_inv;obtain⟨d4,ds,rfl,h4,hs⟩:=hs.cons_inv;obtain⟨d5,ds,rfl,h5,hs⟩:=hs.cons_inv;obtain⟨d6,ds,rfl,h6,hs⟩:=hs.cons_inv;obtain⟨d7,ds,rfl,h7,hs⟩:=hs.cons_inv;obtain rfl:=hs.nil_inv;obtain⟨n0,rfl,b0⟩:=aBy h0;obtain⟨n1,rfl,b1,c1⟩:=aoh h1;obtain⟨n2,rfl,b2,c2⟩:=asF h2;obtain⟨n3,rfl,b3,c3⟩:=apS h3;obtain⟨n4,rfl,b4,c4⟩:=azF h4;obtain⟨n5,rfl,b5,c5⟩:=aEa h5;obtain⟨n6,rfl,b6,c6⟩:=aAw h6;obtain⟨n7,rfl,b7,c7⟩:=as7 h7;exact⟨⟨n0,n1,n2,n3,n4,n5,n6,n7⟩,rfl,⟨b0,⟨b1,c1⟩,⟨b2,c2⟩,⟨b3,c3⟩,⟨b4,c4⟩,⟨b5,c5⟩,⟨b6,c6⟩,⟨b7,c7⟩⟩⟩
structure Tenor where
 kind:Int
 n:Int
 unit:Int
 deriving DecidableEq,Inhabited
def lE (x:Tenor):D:=.agg [.int x.kind,.int x.n,.int x.unit]
@[simp] theorem aGG (x:Tenor):(lE x).cells=[.int x.kind,.int x.n,.int x.unit]:=_root_.id rfl
@[simp] theorem aJV (x:Tenor):D.agg [.int x.kind,.int x.n,.int x.unit]=lE x:=_root_.id rfl
@[simp] theorem aGD (x:Tenor):(lE x).c 0=.int x.kind:=_root_.id rfl
@[simp] theorem aGE (x:Tenor):(lE x).c 1=.int x.n:=_root_.id rfl
@[simp] theorem aGF (x:Tenor):(lE x).c 2=.int x.unit:=_root_.id rfl
def Tenor.OK (x:Tenor):Prop:=bj x.kind∧bj x.n∧bj x.unit
structure Bill where
 drawer:Int
 drawee:Int
 payee:Int
 sum:Int
 currency:Int
 tenor:Tenor
 day:Int
 city:Int
 pay:Int
 need:Int
 rate:Int
 flags:Int
 parts:Int
 deriving DecidableEq,Inhabited
def dz (x:Bill):D:=.agg [.int x.drawer,.int x.drawee,.int x.payee,.int x.sum,.int x.currency,.int x.tenor.kind,.int x.tenor.n,.int x.tenor.unit,.int x.day,.int x.city,.int x.pay,.int x.need,.int x.rate,.int x.flags,.int x.parts]
@[simp] theorem aE8 (x:Bill):(dz x).cells=[.int x.drawer,.int x.drawee,.int x.payee,.int x.sum,.int x.currency,.int x.tenor.kind,.int x.tenor.n,.int x.tenor.unit,.int x.day,.int x.city,.int x.pay,.int x.need,.int x.rate,.int x.flags,.int x.parts]:=_root_.id rfl
@[simp] theorem aJE (x:Bill):D.agg [.int x.drawer,.int x.drawee,.int x.payee,.int x.sum,.int x.currency,.int x.tenor.kind,.int x.tenor.n,.int x.tenor.unit,.int x.day,.int x.city,.int x.pay,.int x.need,.int x.rate,.int x.flags,.int x.parts]=dz x:=_root_.id rfl
@[simp] theorem aGT (x:Bill):j6 15 (dz x)=dz x:=_root_.id rfl
@[simp] theorem aKc (x:Bill)(a0 a1 a2 a3 a4 a5 a6 a7 a8 a9 nf ng ni nj nk:D):D.agg (eh [a0,a1,a2,a3,a4,a5,a6,a7,a8,a9,nf,ng,ni,nj,nk] 0 [.int x.drawer,.int x.drawee,.int x.payee,.int x.sum,.int x.currency,.int x.tenor.kind,.int x.tenor.n,.int x.tenor.unit,.int x.day,.int x.city,.int x.pay,.int x.need,.int x.rate,.int x.flags,.int x.parts])=dz x:=_root_.id rfl
@[simp] theorem aET (x:Bill):(dz x).c 0=.int x.drawer:=_root_.id rfl
@[simp] theorem aEU (x:Bill):(dz x).c 1=.int x.drawee:=_root_.id rfl
@[simp] theorem aE0 (x:Bill):(dz x).c 2=.int x.payee:=_root_.id rfl
@[simp] theorem aE1 (x:Bill):(dz x).c 3=.int x.sum:=_root_.id rfl
@[simp] theorem aE2 (x:Bill):(dz x).c 4=.int x.currency:=_root_.id rfl
@[simp] theorem aE3 (x:Bill):(dz x).c 5=.int x.tenor.kind:=_root_.id rfl
@[simp] theorem aE4 (x:Bill):(dz x).c 6=.int x.tenor.n:=_root_.id rfl
@[simp] theorem aE5 (x:Bill):(dz x).c 7=.int x.tenor.unit:=_root_.id rfl
@[simp] theorem aE6 (x:Bill):(dz x).c 8=.int x.day:=_root_.id rfl
@[simp] theorem aE7 (x:Bill):(dz x).c 9=.int x.city:=_root_.id rfl
@[simp] theorem aEV (x:Bill):(dz x).c 10=.int x.pay:=_root_.id rfl
@[simp] theorem aEW (x:Bill):(dz x).c 11=.int x.need:=_root_.id rfl
@[simp] theorem aEX (x:Bill):(dz x).c 12=.int x.rate:=_root_.id rfl
@[simp] theorem aEY (x:Bill):(dz x).c 13=.int x.flags:=_root_.id rfl
@[simp] theorem aEZ (x:Bill):(dz x).c 14=.int x.parts:=_root_.id rfl
def Bill.OK (x:Bill):Prop:=bj x.drawer∧bj x.drawee∧bj x.payee∧bj x.sum∧bj x.currency∧Tenor.OK x.tenor∧bj x.day∧bj x.city∧bj x.pay∧bj x.need∧bj x.rate∧bj x.flags∧bj x.parts
structure Sign where
 kind:Int
 part:Int
 who:Int
 for_:Int
 to:Int
 sum:Int
 day:Int
 city:Int
 flags:Int
 deriving DecidableEq,Inhabited
def jJ (x:Sign):D:=.agg [.int x.kind,.int x.part,.int x.who,.int x.for_,.int x.to,.int x.sum,.int x.day,.int x.city,.int x.flags]
@[simp] theorem aGx (x:Sign):(jJ x).cells=[.int x.kind,.int x.part,.int x.who,.int x.for_,.int x.to,.int x.sum,.int x.day,.int x.city,.int x.flags]:=_root_.id rfl
@[simp] theorem aJU (x:Sign):D.agg [.int x.kind,.int x.part,.int x.who,.int x.for_,.int x.to,.int x.sum,.int x.day,.int x.city,.int x.flags]=jJ x:=_root_.id rfl
@[simp] theorem aGZ (x:Sign):j6 9 (jJ x)=jJ x:=_root_.id rfl
@[simp] theorem aGo (x:Sign):(jJ x).c 0=.int x.kind:=_root_.id rfl
@[simp] theorem aGp (x:Sign):(jJ x).c 1=.int x.part:=_root_.id rfl
@[simp] theorem aGq (x:Sign):(jJ x).c 2=.int x.who:=_root_.id rfl
@[simp] theorem aGr (x:Sign):(jJ x).c 3=.int x.for_:=_root_.id rfl
@[simp] theorem aGs (x:Sign):(jJ x).c 4=.int x.to:=_root_.id rfl
@[simp] theorem aGt (x:Sign):(jJ x).c 5=.int x.sum:=_root_.id rfl
@[simp] theorem aGu (x:Sign):(jJ x).c 6=.int x.day:=_root_.id rfl
@[simp] theorem aGv (x:Sign):(jJ x).c 7=.int x.city:=_root_.id rfl
@[simp] theorem aGw (x:Sign):(jJ x).c 8=.int x.flags:=_root_.id rfl
def signs (l:List Sign):D:=.list (l.map jJ)
@[simp] theorem aKJ (l:List Sign):(signs l).l=l.map jJ:=_root_.id rfl
@[simp] theorem aKI (l:List Sign):(signs l).cells=[signs l]:=_root_.id rfl
abbrev WX:Ty:=.agg [.int .i64,.int .i64,.int .i64,.int .i64,.int .i64,.int .i64,.int .i64,.int .i64,.int .i64]
def Sign.OK (x:Sign):Prop:=bj x.kind∧bj x.part∧bj x.who∧bj x.for_∧bj x.to∧bj x.sum∧bj x.day∧bj x.city∧bj x.flags
theorem aBu {d:D}(h:DTy WX d):∃x:Sign,d=jJ x∧x.OK:=by
 obtain⟨ds,rfl,hs⟩:=h.agg_inv;obtain⟨d0,ds,rfl,h0,hs⟩:=hs.cons_inv;obtain⟨d1,ds,rfl,h1,hs⟩:=hs.cons_inv;obtain⟨d2,ds,rfl,h2,hs⟩:=hs.cons_inv;obtain⟨d3,ds,rfl,h3,hs⟩:=hs.cons_inv;obtain⟨d4,ds,rfl,h4,hs⟩:=hs.cons_inv;obtain⟨d5,ds,rfl,h5,hs⟩:=hs.cons_inv;obtain⟨d6,ds,rfl,h6,hs⟩:=hs.cons_inv;obtain⟨d7,ds,rfl,h7,hs⟩:=hs.cons_inv;obtain⟨d8,ds,rfl,h8,hs⟩:=hs.cons_inv;obtain rfl:=hs.nil_inv;obtain⟨n0,rfl,b0⟩:=h0.i64_inv;obtain⟨n1,rfl,b1⟩:=h1.i64_inv;obtain⟨n2,rfl,b2⟩:=h2.i64_inv;obtain⟨n3,rfl,b3⟩:=h3.i64_inv;obtain⟨n4,rfl,b4⟩:=h4.i64_inv;obtain⟨n5,rfl,b5⟩:=h5.i64_inv;obtain⟨n6,rfl,b6⟩:=h6.i64_inv;obtain⟨n7,rfl,b7⟩:=h7.i64_inv;obtain⟨n8,rfl,b8⟩:=h8.i64_inv;exact⟨⟨n0,n1,n2,n3,n4,n5,n6,n7,n8⟩,rfl,⟨b0,b1,b2,b3,b4,b5,b6,b7,b8⟩⟩
theorem aBv {d:D}(h:DTy (.slice WX) d):∃l:List Sign,d=signs l∧l.length≤maxLen∧∀y,y∈l→Sign.OK y:=by
 obtain⟨xs,rfl,hm,hx⟩:=h.slice_inv;obtain⟨l,rfl,hl⟩:=jV (enc:=jJ) (P:=Sign.OK) fun x hh=>aBu (hx x hh);exact⟨l,rfl,by simpa using hm,hl⟩
structure Alter where
 at_:Int
 sum:Int
 deriving DecidableEq,Inhabited
def oL (x:Alter):D:=.agg [.int x.at_,.int x.sum]
@[simp] theorem aES (x:Alter):(oL x).cells=[.int x.at_,.int x.sum]:=_root_.id rfl
@[simp] theorem aJD (x:Alter):D.agg [.int x.at_,.int x.sum]=oL x:=_root_.id rfl
@[simp] theorem aEQ (x:Alter):(oL x).c 0=.int x.at_:=_root_.id rfl
@[simp] theorem aER (x:Alter):(oL x).c 1=.int x.sum:=_root_.id rfl
def alters (l:List Alter):D:=.list (l.map oL)
@[simp] theorem aG2 (l:List Alter):(alters l).l=l.map oL:=_root_.id rfl
@[simp] theorem aG1 (l:List Alter):(alters l).cells=[alters l]:=_root_.id rfl
abbrev WM:Ty:=.agg [.int .i64,.int .i64]
def Alter.OK (x:Alter):Prop:=bj x.at_∧bj x.sum
theorem ajj {d:D}(h:DTy WM d):∃x:Alter,d=oL x∧x.OK:=by
 obtain⟨ds,rfl,hs⟩:=h.agg_inv;obtain⟨d0,ds,rfl,h0,hs⟩:=hs.cons_inv;obtain⟨d1,ds,rfl,h1,hs⟩:=hs.cons_inv;obtain rfl:=hs.nil_inv;obtain⟨n0,rfl,b0⟩:=h0.i64_inv;obtain⟨n1,rfl,b1⟩:=h1.i64_inv;exact⟨⟨n0,n1⟩,rfl,⟨b0,b1⟩⟩
theorem ajk {d:D}(h:DTy (.slice WM) d):∃l:List Alter,d=alters l∧l.length≤maxLen∧∀y,y∈l→Alter.OK y:=by
 obtain⟨xs,rfl,hm,hx⟩:=h.slice_inv;obtain⟨l,rfl,hl⟩:=jV (enc:=oL) (P:=Alter.OK) fun x hh=>ajj (hx x hh);exact⟨l,rfl,by simpa using hm,hl⟩
structure Act where
 kind:Int
 who:Int
 to:Int
 part:Int
 at_:Int
 sum:Int
 day:Int
 city:Int
 form:Int
 deriving DecidableEq,Inhabited
def jf (x:Act):D:=.agg [.int x.kind,.int x.who,.int x.to,.int x.part,.int x.at_,.int x.sum,.int x.day,.int x.city,.int x.form]
@[simp] theorem aEP (x:Act):(jf x).cells=[.int x.kind,.int x.who,.int x.to,.int x.part,.int x.at_,.int x.sum,.int x.day,.int x.city,.int x.form]:=_root_.id rfl
@[simp] theorem aJC (x:Act):D.agg [.int x.kind,.int x.who,.int x.to,.int x.part,.int x.at_,.int x.sum,.int x.day,.int x.city,.int x.form]=jf x:=_root_.id rfl
@[simp] theorem aGS (x:Act):j6 9 (jf x)=jf x:=_root_.id rfl
@[simp] theorem aEG (x:Act):(jf x).c 0=.int x.kind:=_root_.id rfl
@[simp] theorem aEH (x:Act):(jf x).c 1=.int x.who:=_root_.id rfl
@[simp] theorem aEI (x:Act):(jf x).c 2=.int x.to:=_root_.id rfl
@[simp] theorem aEJ (x:Act):(jf x).c 3=.int x.part:=_root_.id rfl
@[simp] theorem aEK (x:Act):(jf x).c 4=.int x.at_:=_root_.id rfl
@[simp] theorem aEL (x:Act):(jf x).c 5=.int x.sum:=_root_.id rfl
@[simp] theorem aEM (x:Act):(jf x).c 6=.int x.day:=_root_.id rfl
@[simp] theorem aEN (x:Act):(jf x).c 7=.int x.city:=_root_.id rfl
@[simp] theorem aEO (x:Act):(jf x).c 8=.int x.form:=_root_.id rfl
def acts (l:List Act):D:=.list (l.map jf)
@[simp] theorem aGN (l:List Act):(acts l).l=l.map jf:=_root_.id rfl
@[simp] theorem aGM (l:List Act):(acts l).cells=[acts l]:=_root_.id rfl
abbrev WL:Ty:=.agg [.int .i64,.int .i64,.int .i64,.int .i64,.int .i64,.int .i64,.int .i64,.int .i64,.int .i64]
def Act.OK (x:Act):Prop:=bj x.kind∧bj x.who∧bj x.to∧bj x.part∧bj x.at_∧bj x.sum∧bj x.day∧bj x.city∧bj x.form
theorem ajc {d:D}(h:DTy WL d):∃x:Act,d=jf x∧x.OK:=by
 obtain⟨ds,rfl,hs⟩:=h.agg_inv;obtain⟨d0,ds,rfl,h0,hs⟩:=hs.cons_inv;obtain⟨d1,ds,rfl,h1,hs⟩:=hs.cons_inv;obtain⟨d2,ds,rfl,h2,hs⟩:=hs.cons_inv;obtain⟨d3,ds,rfl,h3,hs⟩:=hs.cons_inv;obtain⟨d4,ds,rfl,h4,hs⟩:=hs.cons_inv;obtain⟨d5,ds,rfl,h5,hs⟩:=hs.cons_inv;obtain⟨d6,ds,rfl,h6,hs⟩:=hs.cons_inv;obtain⟨d7,ds,rfl,h7,hs⟩:=hs.cons_inv;obtain⟨d8,ds,rfl,h8,hs⟩:=hs.cons_inv;obtain rfl:=hs.nil_inv;obtain⟨n0,rfl,b0⟩:=h0.i64_inv;obtain⟨n1,rfl,b1⟩:=h1.i64_inv;obtain⟨n2,rfl,b2⟩:=h2.i64_inv;obtain⟨n3,rfl,b3⟩:=h3.i64_inv;obtain⟨n4,rfl,b4⟩:=h4.i64_inv;obtain⟨n5,rfl,b5⟩:=h5.i64_inv;obtain⟨n6,rfl,b6⟩:=h6.i64_inv;obtain⟨n7,rfl,b7⟩:=h7.i64_inv;obtain⟨n8,rfl,b8⟩:=h8.i64_inv;exact⟨⟨n0,n1,n2,n3,n4,n5,n6,n7,n8⟩,rfl,⟨b0,b1,b2,b3,b4,b5,b6,b7,b8⟩⟩
theorem ajd {d:D}(h:DTy (.slice WL) d):∃l:List Act,d=acts l∧l.length≤maxLen∧∀y,y∈l→Act.OK y:=by
 obtain⟨xs,rfl,hm,hx⟩:=h.slice_inv;obtain⟨l,rfl,hl⟩:=jV (enc:=jf) (P:=Act.OK) fun x hh=>ajc (hx x hh);exact⟨l,rfl,by simpa using hm,hl⟩
structure Fact where
 kind:Int
 at_:Int
 n:Int
 deriving DecidableEq,Inhabited
def ru (x:Fact):D:=.agg [.int x.kind,.int x.at_,.int x.n]
@[simp] theorem aFz (x:Fact):(ru x).cells=[.int x.kind,.int x.at_,.int x.n]:=_root_.id rfl
@[simp] theorem aJJ (x:Fact):D.agg [.int x.kind,.int x.at_,.int x.n]=ru x:=_root_.id rfl
@[simp] theorem aFw (x:Fact):(ru x).c 0=.int x.kind:=_root_.id rfl
@[simp] theorem aFx (x:Fact):(ru x).c 1=.int x.at_:=_root_.id rfl
@[simp] theorem aFy (x:Fact):(ru x).c 2=.int x.n:=_root_.id rfl
def facts (l:List Fact):D:=.list (l.map ru)
@[simp] theorem aIw (l:List Fact):(facts l).l=l.map ru:=_root_.id rfl
@[simp] theorem aIv (l:List Fact):(facts l).cells=[facts l]:=_root_.id rfl
abbrev WQ:Ty:=.agg [.int .i64,.int .i64,.int .i64]
def Fact.OK (x:Fact):Prop:=bj x.kind∧bj x.at_∧bj x.n
theorem apJ {d:D}(h:DTy WQ d):∃x:Fact,d=ru x∧x.OK:=by
 obtain⟨ds,rfl,hs⟩:=h.agg_inv;obtain⟨d0,ds,rfl,h0,hs⟩:=hs.cons_inv;obtain⟨d1,ds,rfl,h1,hs⟩:=hs.cons_inv;obtain⟨d2,ds,rfl,h2,hs⟩:=hs.cons_inv;obtain rfl:=hs.nil_inv;obtain⟨n0,rfl,b0⟩:=h0.i64_inv;obtain⟨n1,rfl,b1⟩:=h1.i64_inv;obtain⟨n2,rfl,b2⟩:=h2.i64_inv;exact⟨⟨n0,n1,n2⟩,rfl,⟨b0,b1,b2⟩⟩
theorem apK {d:D}(h:DTy (.slice WQ) d):∃l:List Fact,d=facts l∧l.length≤maxLen∧∀y,y∈l→Fact.OK y:=by
 obtain⟨xs,rfl,hm,hx⟩:=h.slice_inv;obtain⟨l,rfl,hl⟩:=jV (enc:=ru) (P:=Fact.OK) fun x hh=>apJ (hx x hh);exact⟨l,rfl,by simpa using hm,hl⟩
structure File where
 bill:Bill
 signs:List Sign
 alters:List Alter
 acts:List Act
 facts:List Fact
 deriving Inhabited
def cZ (x:File):D:=.agg [.int x.bill.drawer,.int x.bill.drawee,.int x.bill.payee,.int x.bill.sum,.int x.bill.currency,.int x.bill.tenor.kind,.int x.bill.tenor.n,.int x.bill.tenor.unit,.int x.bill.day,.int x.bill.city,.int x.bill.pay,.int x.bill.need,.int x.bill.rate,.int x.bill.flags,.int x.bill.parts,signs x.signs,alters x.alters,acts x.acts,facts x.facts]
@[simp] theorem aFI (x:File):(cZ x).cells=[.int x.bill.drawer,.int x.bill.drawee,.int x.bill.payee,.int x.bill.sum,.int x.bill.currency,.int x.bill.tenor.kind,.int x.bill.tenor.n,.int x.bill.tenor.unit,.int x.bill.day,.int x.bill.city,.int x.bill.pay,.int x.bill.need,.int x.bill.rate,.int x.bill.flags,.int x.bill.parts,signs x.signs,alters x.alters,acts x.acts,facts x.facts]:=_root_.id rfl
@[simp] theorem aJK (x:File):D.agg [.int x.bill.drawer,.int x.bill.drawee,.int x.bill.payee,.int x.bill.sum,.int x.bill.currency,.int x.bill.tenor.kind,.int x.bill.tenor.n,.int x.bill.tenor.unit,.int x.bill.day,.int x.bill.city,.int x.bill.pay,.int x.bill.need,.int x.bill.rate,.int x.bill.flags,.int x.bill.parts,signs x.signs,alters x.alters,acts x.acts,facts x.facts]=cZ x:=_root_.id rfl
@[simp] theorem aGV (x:File):j6 19 (cZ x)=cZ x:=_root_.id rfl
@[simp] theorem aKd (x:File)(a0 a1 a2 a3 a4 a5 a6 a7 a8 a9 nf ng ni nj nk pY pZ p5 rh:D):D.agg (eh [a0,a1,a2,a3,a4,a5,a6,a7,a8,a9,nf,ng,ni,nj,nk,pY,pZ,p5,rh] 0 [.int x.bill.drawer,.int x.bill.drawee,.int x.bill.payee,.int x.bill.sum,.int x.bill.currency,.int x.bill.tenor.kind,.int x.bill.tenor.n,.int x.bill.tenor.unit,.int x.bill.day,.int x.bill.city,.int x.bill.pay,.int x.bill.need,.int x.bill.rate,.int x.bill.flags,.int x.bill.parts,signs x.signs,alters x.alters,acts x.acts,facts x.facts])=cZ x:=_root_.id rfl
@[simp] theorem aFG (x:File):(cZ x).c 5=.int x.bill.tenor.kind:=_root_.id rfl
@[simp] theorem aFH (x:File):(cZ x).c 8=.int x.bill.day:=_root_.id rfl
@[simp] theorem aFA (x:File):(cZ x).c 10=.int x.bill.pay:=_root_.id rfl
@[simp] theorem aFB (x:File):(cZ x).c 14=.int x.bill.parts:=_root_.id rfl
@[simp] theorem aFC (x:File):(cZ x).c 15=signs x.signs:=_root_.id rfl
@[simp] theorem aFD (x:File):(cZ x).c 16=alters x.alters:=_root_.id rfl
@[simp] theorem aFE (x:File):(cZ x).c 17=acts x.acts:=_root_.id rfl
@[simp] theorem aFF (x:File):(cZ x).c 18=facts x.facts:=_root_.id rfl
abbrev aD0:Ty:=.agg [.int .i64,.int .i64,.int .i64,.int .i64,.int .i64,.int .i64,.int .i64,.int .i64,.int .i64,.int .i64,.int .i64,.int .i64,.int .i64,.int .i64,.int .i64,.slice WX,.slice WM,.slice WL,.slice WQ]
def File.OK (x:File):Prop:=Bill.OK x.bill∧(x.signs.length≤maxLen∧∀y,y∈x.signs→Sign.OK y)∧(x.alters.length≤maxLen∧∀y,y∈x.alters→Alter.OK y)∧(x.acts.length≤maxLen∧∀y,y∈x.acts→Act.OK y)∧(x.facts.length≤maxLen∧∀y,y∈x.facts→Fact.OK y)
theorem apL {d:D}(h:DTy aD0 d):∃x:File,d=cZ x∧x.OK:=by
 obtain⟨ds,rfl,hs⟩:=h.agg_inv;obtain⟨d0,ds,rfl,h0,hs⟩:=hs.cons_inv;obtain⟨d1,ds,rfl,h1,hs⟩:=hs.cons_inv;obtain⟨d2,ds,rfl,h2,hs⟩:=hs.cons_inv;obtain⟨d3,ds,rfl,h3,hs⟩:=hs.cons_inv;obtain⟨d4,ds,rfl,h4,hs⟩:=hs.cons_inv;obtain⟨d5,ds,rfl,h5,hs⟩:=hs.cons_inv;obtain⟨d6,ds,rfl,h6,hs⟩:=hs.cons_inv;obtain⟨d7,ds,rfl,h7,hs⟩:=hs.cons_inv;obtain⟨d8,ds,rfl,h8,hs⟩:=hs.cons_inv;obtain⟨d9,ds,rfl,h9,hs⟩:=hs.cons_inv;obtain⟨d10,ds,rfl,nw,hs⟩:=hs.cons_inv;obtain⟨d11,ds,rfl,rF,hs⟩:=hs.cons_inv;obtain⟨d12,ds,rfl,xX,hs⟩:=hs.cons_inv;obtain⟨d13,ds,rfl,h13,hs⟩:=hs.cons_inv;obtain⟨d14,ds,rfl,h14,hs⟩:=hs.cons_inv;obtain⟨d15,ds,rfl,HC,hs⟩:=hs.cons_inv;obtain⟨d16,ds,rfl,HD,hs⟩:=hs.cons_inv;obtain⟨d17,ds,rfl,HE,hs⟩:=hs.cons_inv;obtain⟨d18,ds,rfl,HF,hs⟩:=hs.cons_inv;obtain rfl:=hs.nil_inv;obtain⟨n0,rfl,b0⟩:=h0.i64_inv;obtain⟨n1,rfl,b1⟩:=h1.i64_inv;obtain⟨n2,rfl,b2⟩:=h2.i64_inv;obtain⟨n3,rfl,b3⟩:=h3.i64_inv;obtain⟨n4,rfl,b4⟩:=h4.i64_inv;obtain⟨n5,rfl,b5⟩:=h5.i64_inv;obtain⟨n6,rfl,b6⟩:=h6.i64_inv;obtain⟨n7,rfl,b7⟩:=h7.i64_inv;obtain⟨n8,rfl,b8⟩:=h8.i64_inv;obtain⟨n9,rfl,b9⟩:=h9.i64_inv;obtain⟨n10,rfl,b10⟩:=nw.i64_inv;obtain⟨n11,rfl,b11⟩:=rF.i64_inv;obtain⟨n12,rfl,b12⟩:=xX.i64_inv;obtain⟨n13,rfl,b13⟩:=h13.i64_inv;obtain⟨n14,rfl,b14⟩:=h14.i64_inv;obtain⟨n15,rfl,b15,c15⟩:=aBv HC;obtain⟨n16,rfl,b16,c16⟩:=ajk HD;obtain⟨n17,rfl,b17,c17⟩:=ajd HE;obtain⟨n18,rfl,b18,c18⟩:=apK HF;exact⟨⟨⟨n0,n1,n2,n3,n4,⟨n5,n6,n7⟩,n8,n9,n10,n11,n12,n13,n14⟩,n15,n16,n17,n18⟩,rfl,⟨⟨b0,b1,b2,b3,b4,⟨b5,b6,b7⟩,b8,b9,b10,b11,b12,b13,b14⟩,⟨b15,c15⟩,⟨b16,c16⟩,⟨b17,c17⟩,⟨b18,c18⟩⟩⟩
structure Case where
 file:File
 sign:Int
 holder:Int
 defence:Int
 due:Int
 day:Int
 deriving Inhabited
def ew (x:Case):D:=.agg [.int x.file.bill.drawer,.int x.file.bill.drawee,.int x.file.bill.payee,.int x.file.bill.sum,.int x.file.bill.currency,.int x.file.bill.tenor.kind,.int x.file.bill.tenor.n,.int x.file.bill.tenor.unit,.int x.file.bill.day,.int x.file.bill.city,.int x.file.bill.pay,.int x.file.bill.need,.int x.file.bill.rate,.int x.file.bill.flags,.int x.file.bill.parts,signs x.file.signs,alters x.file.alters,acts x.file.acts,facts x.file.facts,.int x.sign,.int x.holder,.int x.defence,.int x.due,.int x.day]
@[simp] theorem aFh (x:Case):(ew x).cells=[.int x.file.bill.drawer,.int x.file.bill.drawee,.int x.file.bill.payee,.int x.file.bill.sum,.int x.file.bill.currency,.int x.file.bill.tenor.kind,.int x.file.bill.tenor.n,.int x.file.bill.tenor.unit,.int x.file.bill.day,.int x.file.bill.city,.int x.file.bill.pay,.int x.file.bill.need,.int x.file.bill.rate,.int x.file.bill.flags,.int x.file.bill.parts,signs x.file.signs,alters x.file.alters,acts x.file.acts,facts x.file.facts,.int x.sign,.int x.holder,.int x.defence,.int x.due,.int x.day]:=_root_.id rfl
@[simp] theorem aJF (x:Case):D.agg [.int x.file.bill.drawer,.int x.file.bill.drawee,.int x.file.bill.payee,.int x.file.bill.sum,.int x.file.bill.currency,.int x.file.bill.tenor.kind,.int x.file.bill.tenor.n,.int x.file.bill.tenor.unit,.int x.file.bill.day,.int x.file.bill.city,.int x.file.bill.pay,.int x.file.bill.need,.int x.file.bill.rate,.int x.file.bill.flags,.int x.file.bill.parts,signs x.file.signs,alters x.file.alters,acts x.file.acts,facts x.file.facts,.int x.sign,.int x.holder,.int x.defence,.int x.due,.int x.day]=ew x:=_root_.id rfl
@[simp] theorem aji (x:Case):j6 24 (ew x)=ew x:=_root_.id rfl
@[simp] theorem azG (x:Case)(a0 a1 a2 a3 a4 a5 a6 a7 a8 a9 nf ng ni nj nk pY pZ p5 rh a19 a20 a21 a22 a23:D):D.agg (eh [a0,a1,a2,a3,a4,a5,a6,a7,a8,a9,nf,ng,ni,nj,nk,pY,pZ,p5,rh,a19,a20,a21,a22,a23] 0 [.int x.file.bill.drawer,.int x.file.bill.drawee,.int x.file.bill.payee,.int x.file.bill.sum,.int x.file.bill.currency,.int x.file.bill.tenor.kind,.int x.file.bill.tenor.n,.int x.file.bill.tenor.unit,.int x.file.bill.day,.int x.file.bill.city,.int x.file.bill.pay,.int x.file.bill.need,.int x.file.bill.rate,.int x.file.bill.flags,.int x.file.bill.parts,signs x.file.signs,alters x.file.alters,acts x.file.acts,facts x.file.facts,.int x.sign,.int x.holder,.int x.defence,.int x.due,.int x.day])=ew x:=_root_.id rfl
@[simp] theorem aFg (x:Case):(ew x).c 9=.int x.file.bill.city:=_root_.id rfl
@[simp] theorem aE9 (x:Case):(ew x).c 10=.int x.file.bill.pay:=_root_.id rfl
@[simp] theorem aFa (x:Case):(ew x).c 15=signs x.file.signs:=_root_.id rfl
@[simp] theorem aFb (x:Case):(ew x).c 19=.int x.sign:=_root_.id rfl
@[simp] theorem aFc (x:Case):(ew x).c 20=.int x.holder:=_root_.id rfl
@[simp] theorem aFd (x:Case):(ew x).c 21=.int x.defence:=_root_.id rfl
@[simp] theorem aFe (x:Case):(ew x).c 22=.int x.due:=_root_.id rfl
@[simp] theorem aFf (x:Case):(ew x).c 23=.int x.day:=_root_.id rfl
def cases(l:List Case):D:=.list (l.map ew)
structure Cell where
 known:Bool
 n:Int
 deriving DecidableEq,Inhabited
def cR (x:Cell):D:=.agg [.bool x.known,.int x.n]
@[simp] theorem aFk (x:Cell):(cR x).cells=[.bool x.known,.int x.n]:=_root_.id rfl
@[simp] theorem aJG (x:Cell):D.agg [.bool x.known,.int x.n]=cR x:=_root_.id rfl
@[simp] theorem aFi (x:Cell):(cR x).c 0=.bool x.known:=_root_.id rfl
@[simp] theorem aFj (x:Cell):(cR x).c 1=.int x.n:=_root_.id rfl
def cells (l:List Cell):D:=.list (l.map cR)
@[simp] theorem aHj (l:List Cell):(cells l).l=l.map cR:=_root_.id rfl
@[simp] theorem aHi (l:List Cell):(cells l).cells=[cells l]:=_root_.id rfl
structure Said where
 cell:Cell
 order:Int
 path:List Int
 err:Int
 deriving Inhabited
def jI (x:Said):D:=.agg [.bool x.cell.known,.int x.cell.n,.int x.order,ints x.path,.int x.err]
@[simp] theorem aGk (x:Said):(jI x).cells=[.bool x.cell.known,.int x.cell.n,.int x.order,ints x.path,.int x.err]:=_root_.id rfl
@[simp] theorem aJS (x:Said):D.agg [.bool x.cell.known,.int x.cell.n,.int x.order,ints x.path,.int x.err]=jI x:=_root_.id rfl
@[simp] theorem aGY (x:Said):j6 5 (jI x)=jI x:=_root_.id rfl
@[simp] theorem aGf (x:Said):(jI x).c 0=.bool x.cell.known:=_root_.id rfl
@[simp] theorem aGg (x:Said):(jI x).c 1=.int x.cell.n:=_root_.id rfl
@[simp] theorem aGh (x:Said):(jI x).c 2=.int x.order:=_root_.id rfl
@[simp] theorem aGi (x:Said):(jI x).c 3=ints x.path:=_root_.id rfl
@[simp] theorem aGj (x:Said):(jI x).c 4=.int x.err:=_root_.id rfl
@[simp] theorem aKS (a0 x0:D):eh [a0] 0 [x0]=[x0]:=_root_.id rfl
@[simp] theorem aKT (a0 a1 x0 x1:D):eh [a0,a1] 0 [x0,x1]=[x0,x1]:=_root_.id rfl
@[simp] theorem aKU (a0 a1 a2 x0 x1 x2:D):eh [a0,a1,a2] 0 [x0,x1,x2]=[x0,x1,x2]:=_root_.id rfl
@[simp] theorem aKV (a0 a1 a2 a3 x0 x1 x2 x3:D):eh [a0,a1,a2,a3] 0 [x0,x1,x2,x3]=[x0,x1,x2,x3]:=_root_.id rfl
@[simp] theorem aKW (a0 a1 a2 a3 a4 x0 x1 x2 x3 x4:D):eh [a0,a1,a2,a3,a4] 0 [x0,x1,x2,x3,x4]=[x0,x1,x2,x3,x4]:=_root_.id rfl
@[simp] theorem aKX (a0 a1 a2 a3 a4 a5 x0 x1 x2 x3 x4 x5:D):eh [a0,a1,a2,a3,a4,a5] 0 [x0,x1,x2,x3,x4,x5]=[x0,x1,x2,x3,x4,x5]:=_root_.id rfl
@[simp] theorem aKY (a0 a1 a2 a3 a4 a5 a6 a7 a8 x0 x1 x2 x3 x4 x5 x6 x7 x8:D):eh [a0,a1,a2,a3,a4,a5,a6,a7,a8] 0 [x0,x1,x2,x3,x4,x5,x6,x7,x8]=[x0,x1,x2,x3,x4,x5,x6,x7,x8]:=_root_.id rfl
end Rm
set_option maxRecDepth 100000
namespace Rm
open Go Go.Proofs Cx
abbrev I:Ty:=.int .i64
abbrev Y0:Ty:=.agg [.str,I,I,(.slice I),(.slice I),(.slice I)]
abbrev Y1:Ty:=.agg [I]
abbrev Y2:Ty:=.agg [.str,I,I]
abbrev Y3:Ty:=.agg [I,I,.bool]
abbrev Y4:Ty:=.agg [I,I,I,(.slice .trm)]
abbrev Y5:Ty:=.agg [.str,.bool,(.slice Y3),(.slice Y4)]
abbrev Y6:Ty:=.agg [I,I,I]
abbrev Y7:Ty:=.agg [I,I,I,I,I]
abbrev Y8:Ty:=.agg [(.slice .str),(.slice Y0),(.slice Y1),(.slice Y2),(.slice Y5),(.slice Y6),(.slice Y7),(.slice Y6)]
abbrev Y9:Ty:=.agg [I,I,I,I,I,I,I,I,I]
abbrev sK:Ty:=.agg [I,I]
abbrev gZ:Ty:=.agg [I,I,I,I,I,I,I,I,I,I,I,I,I,I,I,(.slice Y9),(.slice sK),(.slice Y9),(.slice Y6)]
abbrev mi:Ty:=.agg [I,I,I,I,I,I,I,I,I,I,I,I,I,I,I,(.slice Y9),(.slice sK),(.slice Y9),(.slice Y6),I,I,I,I,I]
abbrev uS:Ty:=.agg [.bool,I,I,(.slice I),I]
abbrev jG:Ty:=.agg [.bool,I]
abbrev pX:Ty:=.agg [I,I,(.slice .trm)]
abbrev FT:Ty:=.agg [I,I,I,I,I,I,I,I,I,I,I,I,I,I,I]
abbrev XH:Ty:=.agg [(.slice jG)]
abbrev Y18:Ty:=.agg [(.slice I),I]
def af:List (Nat×Sig):=[
 (10,⟨[Y8,I,I,gZ,I,I],.bool,.dat⟩),
 (26,⟨[],.bool,.dat⟩),
 (27,⟨[Y8,gZ],.bool,.dat⟩),
 (28,⟨[Y8,I,I,mi],uS,.dat⟩),
 (29,⟨[Y8,I,mi],(.slice I),.dat⟩),
 (30,⟨[gZ,I],gZ,.dat⟩),
 (31,⟨[Y8,mi],(.slice jG),.dat⟩),
 (32,⟨[Y8,I],I,.dat⟩),
 (33,⟨[Y8,I,I,(.slice I)],(.tup [(.slice I),I]),.dat⟩),
 (34,⟨[(.slice I),(.slice I)],.bool,.dat⟩),
 (35,⟨[Y5,I,(.slice jG)],(.tup [jG,I]),.dat⟩),
 (41,⟨[Y8,I,gZ,I],I,.dat⟩),
 (42,⟨[Y8,gZ],I,.dat⟩),
 (46,⟨[uS],I,.dat⟩),
 (48,⟨[uS],I,.dat⟩),
 (49,⟨[uS,uS],.bool,.dat⟩),
 (50,⟨[Y8,I,I,gZ,I],uS,.dat⟩),
 (51,⟨[Y0,I],(.tup [.bool,I]),.dat⟩),
 (53,⟨[Y8,gZ],.bool,.dat⟩),
 (54,⟨[Y8],I,.dat⟩),
 (58,⟨[Y8],.bool,.dat⟩),
 (62,⟨[Y8],I,.dat⟩),
 (79,⟨[],Y8,.dat⟩),
 (80,⟨[gZ],mi,.dat⟩),
 (81,⟨[I],gZ,.dat⟩),
 (82,⟨[Y8,I,I,mi],(.slice I),.dat⟩),
 (83,⟨[Y8,I,I,mi],(.tup [uS,(.slice jG)]),.dat⟩),
 (84,⟨[Y8,mi],(.tup [mi,(.slice jG)]),.dat⟩),
 (85,⟨[Y8,I,mi],(.nsl I),.dat⟩),
 (86,⟨[I,I],.bool,.dat⟩),
 (87,⟨[(.slice sK),(.fn [sK] .bool)],.bool,.dat⟩),
 (88,⟨[sK,(.ref mi)],.bool,.dat⟩),
 (89,⟨[.bool],jG,.dat⟩),
 (90,⟨[gZ,I,I],jG,.dat⟩),
 (91,⟨[I,I],.bool,.dat⟩),
 (92,⟨[Y8,I,I,(.slice I)],.bool,.dat⟩),
 (93,⟨[Y8,I,I,(.slice I)],(.tup [I,.bool]),.dat⟩),
 (94,⟨[(.slice I),I],.bool,.dat⟩),
 (95,⟨[Y5,I],(.tup [pX,I]),.dat⟩),
 (96,⟨[pX,(.slice jG)],jG,.dat⟩),
 (97,⟨[I],(.tup [I,.bool]),.dat⟩),
 (108,⟨[Y8,FT,I,I],(.tup [I,I]),.dat⟩),
 (109,⟨[gZ],I,.dat⟩),
 (110,⟨[Y8,FT],I,.dat⟩),
 (111,⟨[Y8,gZ,I],I,.dat⟩),
 (112,⟨[I,I,I],.bool,.dat⟩),
 (113,⟨[Y8,gZ],I,.dat⟩),
 (114,⟨[gZ],I,.dat⟩),
 (120,⟨[I],.bool,.dat⟩),
 (121,⟨[Y0,I],.bool,.dat⟩),
 (127,⟨[gZ],.bool,.dat⟩),
 (128,⟨[Y5],.bool,.dat⟩),
 (129,⟨[Y8],(.tup [(.slice .str),(.slice .str),(.slice .str)]),.dat⟩),
 (130,⟨[(.slice .str),I,(.fn [I] .bool)],I,.dat⟩),
 (131,⟨[I],.bool,.dat⟩),
 (132,⟨[I,(.ref Y8)],.bool,.dat⟩),
 (133,⟨[Y8,Y0],.bool,.dat⟩),
 (134,⟨[I,(.ref Y8)],.bool,.dat⟩),
 (135,⟨[I,(.ref Y8)],.bool,.dat⟩),
 (136,⟨[Y5],.bool,.dat⟩),
 (137,⟨[Y8],I,.dat⟩),
 (138,⟨[Y8],I,.dat⟩),
 (139,⟨[(.slice I)],(.tup []),.dat⟩),
 (140,⟨[(.slice I)],(.slice I),.dat⟩),
 (145,⟨[Y8],I,.dat⟩),
 (146,⟨[Y8],I,.dat⟩),
 (147,⟨[Y8],I,.dat⟩),
 (148,⟨[Y8],I,.dat⟩),
 (149,⟨[Y8],I,.dat⟩),
 (163,⟨[Y5,I,(.slice jG)],(.slice I),.dat⟩),
 (164,⟨[(.slice sK),(.fn [sK] .bool)],I,.dat⟩),
 (165,⟨[(.slice I),(.fn [I] .bool)],.bool,.dat⟩),
 (166,⟨[I,(.ref I)],.bool,.dat⟩),
 (167,⟨[(.slice I),I],I,.dat⟩),
 (168,⟨[(.slice Y4),(.fn [Y4] .bool)],I,.dat⟩),
 (169,⟨[Y4,(.ref I)],.bool,.dat⟩),
 (170,⟨[pX],(.tup [I,I]),.dat⟩),
 (171,⟨[XH,pX],(.tup [jG,(.slice I)]),.dat⟩),
 (177,⟨[Y8,I],.bool,.dat⟩),
 (178,⟨[I],.bool,.dat⟩),
 (179,⟨[Y6],.bool,.dat⟩),
 (180,⟨[Y8,FT,I],(.tup [I,I]),.dat⟩),
 (181,⟨[Y8,I,I],(.tup [I,I]),.dat⟩),
 (182,⟨[(.slice I)],I,.dat⟩),
 (183,⟨[I,I],.bool,.dat⟩),
 (184,⟨[FT],.bool,.dat⟩),
 (185,⟨[Y8,I,I],(.tup [I,I]),.dat⟩),
 (186,⟨[Y8,gZ,I],.bool,.dat⟩),
 (187,⟨[Y8,gZ,Y9],.bool,.dat⟩),
 (188,⟨[(.slice I)],I,.dat⟩),
 (189,⟨[I,I],I,.dat⟩),
 (201,⟨[I],(.tup [I,I,I]),.dat⟩),
 (203,⟨[pX],.bool,.dat⟩),
 (204,⟨[(.slice .str),I],I,.dat⟩),
 (205,⟨[(.slice I),I,I],.bool,.dat⟩),
 (206,⟨[(.slice I),I,I,I],(.tup []),.dat⟩),
 (207,⟨[(.int .u64)],I,.dat⟩),
 (208,⟨[(.slice .str),I],I,.dat⟩),
 (209,⟨[Y8,Y0],.bool,.dat⟩),
 (210,⟨[I,I,I],.bool,.dat⟩),
 (211,⟨[Y5],.bool,.dat⟩),
 (215,⟨[pX,(.slice jG)],(.slice I),.dat⟩),
 (216,⟨[(.slice I),(.fn [I] .bool)],I,.dat⟩),
 (217,⟨[pX,I],I,.dat⟩),
 (218,⟨[pX],(.tup [I,I]),.dat⟩),
 (219,⟨[XH,I],jG,.dat⟩),
 (220,⟨[I,(.slice jG)],jG,.dat⟩),
 (221,⟨[(.slice (.slice I))],(.slice I),.dat⟩),
 (223,⟨[I,Y6],(.tup [I,I]),.dat⟩),
 (224,⟨[Y8,I,I],I,.dat⟩),
 (225,⟨[Y0,I],(.tup [I,I]),.dat⟩),
 (226,⟨[gZ,I,(.slice I)],.bool,.dat⟩),
 (227,⟨[gZ,I,I],.bool,.dat⟩),
 (228,⟨[I],.bool,.dat⟩),
 (243,⟨[pX,I,I],I,.dat⟩),
 (244,⟨[.str],.bool,.dat⟩),
 (245,⟨[(.slice .str),.str],.bool,.dat⟩),
 (246,⟨[(.slice I),I,I],(.tup []),.dat⟩),
 (247,⟨[(.slice I),I,I],(.tup []),.dat⟩),
 (248,⟨[(.slice I),I,I],(.tup []),.dat⟩),
 (249,⟨[(.slice I),I,I],(.tup [I,I]),.dat⟩),
 (250,⟨[(.slice I),I,I],(.tup []),.dat⟩),
 (251,⟨[(.slice I),I,I],.bool,.dat⟩),
 (252,⟨[I,I],.bool,.dat⟩),
 (253,⟨[(.slice I),I,I,I],I,.dat⟩),
 (254,⟨[(.slice I),I,I,I],(.tup [I,.bool]),.dat⟩),
 (255,⟨[(.int .u32)],I,.dat⟩),
 (256,⟨[(.int .u64)],I,.dat⟩),
 (257,⟨[.str],.bool,.dat⟩),
 (258,⟨[(.slice .str),I,.str],.bool,.dat⟩),
 (259,⟨[(.slice I),I,I],.bool,.dat⟩),
 (260,⟨[pX],(.tup [I,I]),.dat⟩),
 (261,⟨[I],Y18,.dat⟩),
 (262,⟨[I],(.tup [I,.bool]),.dat⟩),
 (263,⟨[.bool],jG,.dat⟩),
 (264,⟨[I],I,.dat⟩),
 (265,⟨[I,I,I],I,.dat⟩),
 (266,⟨[.nils .bool,I],(.slice I),(.row 3 I)⟩),
 (267,⟨[I,I],(.tup [I,I]),.dat⟩),
 (268,⟨[Y0,I,I],(.fn [(.fn [I] .bool)] (.tup [])),.dat⟩),
 (279,⟨[(.slice .str),.str],I,.dat⟩),
 (285,⟨[(.int .u8)],.bool,.dat⟩),
 (286,⟨[I,I],I,.dat⟩),
 (287,⟨[I,I,I],(.tup [I,I]),.dat⟩),
 (288,⟨[I,I],I,.dat⟩),
 (298,⟨[(.int .u64),(.int .u64)],(.tup [(.int .u64),(.int .u64)]),.dat⟩),
 (299,⟨[I,I,I],I,.dat⟩)]
def N8:List (Nat×CSig):=[
 (88,⟨[(.ref mi)],[sK],.bool⟩),
 (131,⟨[],[I],.bool⟩),
 (132,⟨[(.ref Y8)],[I],.bool⟩),
 (134,⟨[(.ref Y8)],[I],.bool⟩),
 (135,⟨[(.ref Y8)],[I],.bool⟩),
 (166,⟨[(.ref I)],[I],.bool⟩),
 (169,⟨[(.ref I)],[Y4],.bool⟩),
 (289,⟨[(.ref I),(.ref I),(.ref Y0)],[(.fn [I] .bool)],(.tup [])⟩)]
abbrev acZ:Nat:=10
abbrev ac4:Nat:=26
abbrev ac1:Nat:=27
abbrev acz:Nat:=28
abbrev acE:Nat:=29
abbrev adL:Nat:=30
abbrev adO:Nat:=31
abbrev adA:Nat:=32
abbrev acW:Nat:=33
abbrev adu:Nat:=34
abbrev ac5:Nat:=35
abbrev acB:Nat:=41
abbrev ac6:Nat:=42
abbrev acF:Nat:=46
abbrev acD:Nat:=48
abbrev ady:Nat:=49
abbrev acA:Nat:=50
abbrev acM:Nat:=51
abbrev adx:Nat:=53
abbrev adz:Nat:=54
abbrev adi:Nat:=58
abbrev adh:Nat:=62
abbrev ac3:Nat:=79
abbrev ac0:Nat:=80
abbrev ac2:Nat:=81
abbrev acC:Nat:=82
abbrev acG:Nat:=83
abbrev acH:Nat:=84
abbrev ayF:Nat:=85
abbrev adR:Nat:=86
abbrev adT:Nat:=87
abbrev adP:Nat:=88
abbrev adQ:Nat:=89
abbrev adM:Nat:=90
abbrev adD:Nat:=91
abbrev acY:Nat:=92
abbrev acX:Nat:=93
abbrev RB:Nat:=94
abbrev Rt:Nat:=95
abbrev ad6:Nat:=96
abbrev Rs:Nat:=97
abbrev DL:Nat:=108
abbrev adN:Nat:=109
abbrev aeb:Nat:=110
abbrev ade:Nat:=111
abbrev DJ:Nat:=112
abbrev ac8:Nat:=113
abbrev ada:Nat:=114
abbrev acS:Nat:=120
abbrev acR:Nat:=121
abbrev ads:Nat:=127
abbrev adw:Nat:=128
abbrev adG:Nat:=129
abbrev adC:Nat:=130
abbrev Rw:Nat:=131
abbrev Rx:Nat:=132
abbrev adB:Nat:=133
abbrev Ry:Nat:=134
abbrev Rz:Nat:=135
abbrev adH:Nat:=136
abbrev adK:Nat:=137
abbrev adI:Nat:=138
abbrev ad0:Nat:=139
abbrev adS:Nat:=140
abbrev adn:Nat:=145
abbrev ado:Nat:=146
abbrev adp:Nat:=147
abbrev adr:Nat:=148
abbrev adq:Nat:=149
abbrev Rr:Nat:=163
abbrev adW:Nat:=164
abbrev adU:Nat:=165
abbrev Rq:Nat:=166
abbrev RD:Nat:=167
abbrev RC:Nat:=168
abbrev IU:Nat:=169
abbrev RE:Nat:=170
abbrev IY:Nat:=171
abbrev ad4:Nat:=177
abbrev IW:Nat:=178
abbrev ad3:Nat:=179
abbrev yR:Nat:=180
abbrev IX:Nat:=181
abbrev adZ:Nat:=182
abbrev aec:Nat:=183
abbrev aed:Nat:=184
abbrev IV:Nat:=185
abbrev adb:Nat:=186
abbrev ac7:Nat:=187
abbrev acU:Nat:=188
abbrev acT:Nat:=189
abbrev acN:Nat:=201
abbrev adt:Nat:=203
abbrev adF:Nat:=204
abbrev adJ:Nat:=205
abbrev ad2:Nat:=206
abbrev acI:Nat:=207
abbrev DK:Nat:=208
abbrev Ru:Nat:=209
abbrev adm:Nat:=210
abbrev Rv:Nat:=211
abbrev ad7:Nat:=215
abbrev adX:Nat:=216
abbrev RK:Nat:=217
abbrev RG:Nat:=218
abbrev RJ:Nat:=219
abbrev RH:Nat:=220
abbrev RA:Nat:=221
abbrev DM:Nat:=223
abbrev ad5:Nat:=224
abbrev acL:Nat:=225
abbrev ac9:Nat:=226
abbrev adf:Nat:=227
abbrev acV:Nat:=228
abbrev adv:Nat:=243
abbrev adE:Nat:=244
abbrev adV:Nat:=245
abbrev ad1:Nat:=246
abbrev acJ:Nat:=256
abbrev adk:Nat:=257
abbrev adg:Nat:=258
abbrev adl:Nat:=259
abbrev RI:Nat:=260
abbrev RL:Nat:=261
abbrev RF:Nat:=262
abbrev RM:Nat:=263
abbrev ad9:Nat:=264
abbrev ad8:Nat:=265
abbrev IS:Nat:=267
abbrev acO:Nat:=268
abbrev adY:Nat:=279
abbrev adj:Nat:=285
abbrev aea:Nat:=286
abbrev DI:Nat:=287
abbrev acQ:Nat:=288
abbrev acP:Nat:=289
abbrev acK:Nat:=298
abbrev IT:Nat:=299
noncomputable def ctx:Ctx:={P:=Tryz.prog,cap:=ab N8,sig:=ab af,ayu:=fun _=>none,glob:=UE 0 [6,7,10,12,13,14,15,16,20,21]}
abbrev fN:PE:=.con (.v (.string ⟨#[0,1,2,2,3,3,3,3,4,4,4,4,4,4,4,4,5,5,5,5,5,5,5,5,5,5,5,5,5,5,5,5,6,6,6,6,6,6,6,6,6,6,6,6,6,6,6,6,6,6,6,6,6,6,6,6,6,6,6,6,6,6,6,6,7,7,7,7,7,7,7,7,7,7,7,7,7,7,7,7,7,7,7,7,7,7,7,7,7,7,7,7,7,7,7,7,7,7,7,7,7,7,7,7,7,7,7,7,7,7,7,7,7,7,7,7,7,7,7,7,7,7,7,7,7,7,7,7,8,8,8,8,8,8,8,8,8,8,8,8,8,8,8,8,8,8,8,8,8,8,8,8,8,8,8,8,8,8,8,8,8,8,8,8,8,8,8,8,8,8,8,8,8,8,8,8,8,8,8,8,8,8,8,8,8,8,8,8,8,8,8,8,8,8,8,8,8,8,8,8,8,8,8,8,8,8,8,8,8,8,8,8,8,8,8,8,8,8,8,8,8,8,8,8,8,8,8,8,8,8,8,8,8,8,8,8,8,8,8,8,8,8,8,8,8,8,8,8,8,8,8,8,8,8,8,8]⟩))
abbrev D2:PE:=.setc (.con (.agg [(.list []),(.list []),(.list []),(.list []),(.list []),(.list []),(.list []),(.list [])])) 0 (.mk [(.lst [(.con (.v (.string ⟨#[102,114,97,110,99]⟩)))]),(.lst [(.mk [(.con (.v (.string ⟨#[76,121,111,110]⟩))),(pi 0),(pi 0),pL,pL,pL]),(.mk [(.con (.v (.string ⟨#[76,111,110,100,111,110]⟩))),(pi 1),(pi 0),pL,pL,pL])]),(.lst [(.mk [(pi 0)])]),(.lst [(.mk [(.con (.v (.string ⟨#[97]⟩))),(pi 0),(pi 0)]),(.mk [(.con (.v (.string ⟨#[98]⟩))),(pi 1),(pi 0)])]),(.lst [(.mk [(pc (.setc (.con (.agg [(.v (.string ⟨#[]⟩)),(.bool false),(.list []),(.list [])])) 0 (.mk [(.con (.v (.string ⟨#[103,101,110,101,118,97]⟩))),pF,pL,(.lst [(.mk [(pi 2),(.mk [(pc (.setc (.con (.agg [(.int 0),(.int 0),(.list [])])) 0 (.mk [(pi 2),(pi 15),pL])) 0),(pc (.setc (.con (.agg [(.int 0),(.int 0),(.list [])])) 0 (.mk [(pi 2),(pi 15),pL])) 1),pL])]),(.mk [(pi 6),(.mk [(pi 0),(pi 0),pL])])])])) 0),(pc (.setc (.con (.agg [(.v (.string ⟨#[]⟩)),(.bool false),(.list []),(.list [])])) 0 (.mk [(.con (.v (.string ⟨#[103,101,110,101,118,97]⟩))),pF,pL,(.lst [(.mk [(pi 2),(.mk [(pc (.setc (.con (.agg [(.int 0),(.int 0),(.list [])])) 0 (.mk [(pi 2),(pi 15),pL])) 0),(pc (.setc (.con (.agg [(.int 0),(.int 0),(.list [])])) 0 (.mk [(pi 2),(pi 15),pL])) 1),pL])]),(.mk [(pi 6),(.mk [(pi 0),(pi 0),pL])])])])) 1),pL,(pc (.setc (.con (.agg [(.v (.string ⟨#[]⟩)),(.bool false),(.list []),(.list [])])) 0 (.mk [(.con (.v (.string ⟨#[103,101,110,101,118,97]⟩))),pF,pL,(.lst [(.mk [(pi 2),(.mk [(pc (.setc (.con (.agg [(.int 0),(.int 0),(.list [])])) 0 (.mk [(pi 2),(pi 15),pL])) 0),(pc (.setc (.con (.agg [(.int 0),(.int 0),(.list [])])) 0 (.mk [(pi 2),(pi 15),pL])) 1),pL])]),(.mk [(pi 6),(.mk [(pi 0),(pi 0),pL])])])])) 3)]),(aC 4 (.setc (.con (.agg [(.v (.string ⟨#[]⟩)),(.bool false),(.list []),(.list [])])) 0 (.mk [(.con (.v (.string ⟨#[108,111,110,100,111,110]⟩))),pF,(.lst [(.mk [(pi 2),(pi 1),pF])]),(.lst [(.mk [(pi 2),(.mk [(pc (.setc (.con (.agg [(.int 0),(.int 0),(.list [])])) 0 (.mk [(pi 4),(pi 0),(.lst [(.mk [(pc (.setc (.con (.agg [(.int 0),(.int 0),(.list [])])) 0 (.mk [(pi 2),(pi 15),pL])) 0),(pc (.setc (.con (.agg [(.int 0),(.int 0),(.list [])])) 0 (.mk [(pi 2),(pi 15),pL])) 1),pL]),(.mk [(pi 2),(pi 17),pL])])])) 0),(pc (.setc (.con (.agg [(.int 0),(.int 0),(.list [])])) 0 (.mk [(pi 4),(pi 0),(.lst [(.mk [(pc (.setc (.con (.agg [(.int 0),(.int 0),(.list [])])) 0 (.mk [(pi 2),(pi 15),pL])) 0),(pc (.setc (.con (.agg [(.int 0),(.int 0),(.list [])])) 0 (.mk [(pi 2),(pi 15),pL])) 1),pL]),(.mk [(pi 2),(pi 17),pL])])])) 1),(pc (.setc (.con (.agg [(.int 0),(.int 0),(.list [])])) 0 (.mk [(pi 4),(pi 0),(.lst [(.mk [(pc (.setc (.con (.agg [(.int 0),(.int 0),(.list [])])) 0 (.mk [(pi 2),(pi 15),pL])) 0),(pc (.setc (.con (.agg [(.int 0),(.int 0),(.list [])])) 0 (.mk [(pi 2),(pi 15),pL])) 1),pL]),(.mk [(pi 2),(pi 17),pL])])])) 2)])]),(.mk [(pi 6),(.mk [(pi 0),(pi 3),pL])])])])))]),pL,pL,pL])
abbrev wx:PE:=.ai .quo .i64 (bC (aP (bC (.ai .rem .i64 (aP r0 (pi 730425)) (pi 146097)) (.ai .quo .i64 (.ai .rem .i64 (aP r0 (pi 730425)) (pi 146097)) (pi 1460))) (.ai .quo .i64 (.ai .rem .i64 (aP r0 (pi 730425)) (pi 146097)) (pi 36524))) (.ai .quo .i64 (.ai .rem .i64 (aP r0 (pi 730425)) (pi 146097)) (pi 146096))) (pi 365)
abbrev jZ:PE:=.setc (.con (.agg [(.int 0),(.int 0),(.int 0),(.int 0),(.int 0),(.int 0),(.int 0),(.int 0),(.int 0),(.int 0),(.int 0),(.int 0),(.int 0),(.int 0),(.int 0),(.list []),(.list []),(.list []),(.list [])])) 0 (.mk [(aC 15 (.setc FB 0 (.mk [(pi 0),(pi 1),(pi 0),(pi 5),(pi 0),(.mk [(pi 3),(pi 10),(pi 0)]),(pi 2),r0,(pi 1),(pi (-1)),(pi 0),(pi 1),(pi 1)]))),(.lst [(aC 9 (.setc z9 0 (.mk [(pi 0),(pi 0),(pi 0),(pi (-1)),(pi (-1)),(pi 0),(pi 2),r0,(pi 0)])))]),pL,pL,(.lst [(.mk [(pi 0),(pi 0),(pi 1)])])])
abbrev fD:PE:=.con (.agg [(.bool false),(.int 0)])
abbrev LN:PE:=.ai .quo .i64 (aP (.ai .mul .i64 (pi 5) (bC (.ai .rem .i64 (aP r0 (pi 730425)) (pi 146097)) (bC (aP (.ai .mul .i64 (pi 365) wx) (.ai .quo .i64 wx (pi 4))) (.ai .quo .i64 wx (pi 100))))) (pi 2)) (pi 153)
abbrev qG:PE:=.deref (.con (.ref (.agg [(.int 6),(.int 7),(.int 10),(.int 12),(.int 13),(.int 14),(.int 15),(.int 16),(.int 20),(.int 21)])))
abbrev kE:PE:=.setc z3 0 (.mk [(pc (.mk [r0]) 5),(pc (.mk [r0]) 6),(pc (.mk [r0]) 7)])
abbrev LQ:PE:=.put (.put (.put (.put (.con (.map [])) (pi 7) (ba (.ai .and .i64 (pc o6 13) (pi 1)) (pi 0))) (pi 8) (aq (pc o6 2) (pi (-1)))) (pi 9) (ba (.ai .and .i64 (pc o6 13) (pi 4)) (pi 0))) (pi 10) (ba (.ai .and .i64 (pc o6 13) (pi 2)) (pi 0))
abbrev jY:PE:=.con (.agg [(.int 0),(.int 0),(.list [])])
abbrev se:PE:=.con (.agg [(.bool false),(.int 0),(.int 0),(.list []),(.int 0)])
abbrev D1:PE:=.con (.agg [(.int 0),(.int 0),(.int 0),(.int 0),(.int 0),(.int 0),(.int 0),(.int 0),(.int 0),(.int 0),(.int 0),(.int 0),(.int 0),(.int 0),(.int 0),(.list []),(.list []),(.list []),(.list [])])
abbrev sf:PE:=.ai .shr .u64 r0 (.con (.v (.int .u64 32)))
abbrev kZ:PE:=.con (.agg [(.list []),(.int 0)])
abbrev cW:PE:=pi 4294967296
abbrev nR:PE:=.setc z9 0 (pn (pc (.mk [r1]) 15) r2)
abbrev zl:PE:=.mk [(pc (.setc fD 0 eK) 0),(pc (.setc fD 0 eK) 1)]
abbrev zm:PE:=.con (.v (.int .u64 16))
abbrev mS:PE:=.con (.v (.int .u64 8))
abbrev zn:PE:=.setc z9 0 (pn (pc (.mk [r2]) 15) (pc (.mk [r2]) 19))
abbrev jx:PE:=.setc (.mk [r3]) 18 pL
abbrev SZ:PE:=.put (.put (.put (.con (.map [])) (pi 0) (pc o6 3)) (pi 1) (pc o6 14)) (pi 2) (pc o6 5)
abbrev LI:PE:=.pick (.pick (aq (.tget qI 0) (pi 0)) (pc ct 0) pF) (.setc ct 1 (.mn (.mx (pc ct 1) (pi 0)) (pi 20000))) ct
abbrev D3:PE:=.mk [(pc (.setc o4 0 (.mk [pF,(pi 0)])) 0),(pc (.setc o4 0 (.mk [pF,(pi 0)])) 1)]
abbrev LJ:PE:=.con (.agg [(.int 0),(.int 0),(.bool false)])
abbrev wv:PE:=.setc (.setc ct 3 (.tget ub 0)) 4 (.tget ub 1)
abbrev agc:PE:=.ai .add .u64 (.ai .mul .u64 sf (.ai .and .u64 r1 (.con (.v (.int .u64 4294967295))))) (.ai .shr .u64 (.ai .mul .u64 (.ai .and .u64 r0 (.con (.v (.int .u64 4294967295)))) (.ai .and .u64 r1 (.con (.v (.int .u64 4294967295))))) (.con (.v (.int .u64 32))))
abbrev zo:PE:=pc (.mk [r0]) 2
abbrev la:PE:=pc (.mk [r0]) 0
abbrev LK:PE:=aP (bC (aP (.ai .mul .i64 (pi 12) (.tget jy 0)) (.tget jy 1)) (pi 1)) r1
abbrev agd:PE:=.con (.agg [(.int 0),(.int 0),(.int 0),(.int 0),(.int 0),(.int 0),(.int 0),(.int 0),(.int 0),(.int 0),(.int 0),(.int 0),(.int 0),(.int 0),(.int 0),(.list []),(.list []),(.list []),(.list []),(.int 0),(.int 0),(.int 0),(.int 0),(.int 0)])
abbrev kD:PE:=aC 8 (.mk [r0])
abbrev age:PE:=.mk [(pc jv 0),(pc jv 1),(pc jv 2),(pc jv 3),(pc jv 4),(pc jv 5),(pc jv 6),(pc jv 7),(pc jv 8),(pc jv 9),(pc jv 10),(pc jv 11),(pc jv 12),(pc jv 13),(pc jv 14),(pc jv 15),(pc jv 16),(pc jv 17),(.o 77838)]
abbrev lb:PE:=.llen (pc o1 1)
abbrev S5:PE:=.mk [(pc (.setc o4 0 (.mk [(pi 0),(pi 0),pL])) 0),(pc (.setc o4 0 (.mk [(pi 0),(pi 0),pL])) 1),pL]
abbrev zp:PE:=.setc z3 0 (pn bY dv)
abbrev wy:PE:=.setc fD 0 (.mk [pT,(pi 1)])
abbrev mT:PE:=.llen (pc o1 3)
abbrev agf:PE:=.pick (.pick (aq (.tget gr 0) (.con (.v (.int .u64 0)))) (aj (.tget gr 1) (.con (.v (.int .u64 1099511627776)))) pF) (.conv .i64 (.tget gr 1)) (pi 1099511627776)
abbrev S6:PE:=aC 5 (.setc o8 0 (.mk [(pc ct 0),(pc ct 1),(pc ct 2),(.o 16394),(pc ct 4)]))
abbrev sk:PE:=pc (.mk [r0]) 1
abbrev nS:PE:=.llen (pc o3 2)
abbrev nT:PE:=.llen (pc o1 4)
abbrev agh:PE:=.pick (.pick (.pick (aj (pc zn 2) (pi 0)) pT (bR (pc zn 2) (.llen (pc (.mk [r0]) 3)))) pT (aj r1 (pi 0))) pT (bR r1 (.llen (pc (.mk [r0]) 4)))
abbrev S7:PE:=.put (.con (.map [])) (pi 7) (ba (.ai .and .i64 (pc o6 13) (pi 1)) (pi 0))
abbrev qC:PE:=pc (.mk [r0]) 15
abbrev agi:PE:=.app o2 (.lst [(pc (.setc (.con (.agg [(.v (.string ⟨#[]⟩)),(.int 0),(.int 0),(.list []),(.list []),(.list [])])) 0 (pn bY dv)) 0)])
abbrev D4:PE:=bC (pi 2) (pc (pn o7 (pi 0)) 1)
abbrev LL:PE:=.setc jY 0 (.sub (pn (pc o2 3) jy) 1 3)
abbrev qD:PE:=.llen (pc o1 2)
abbrev LM:PE:=.pick (aj r1 (pi 3)) (bC r0 (pi 1)) r0
abbrev agj:PE:=.app o4 (.lst [(pc (.setc (.con (.agg [(.v (.string ⟨#[]⟩)),(.bool false),(.list []),(.list [])])) 0 (pn iv nW)) 0)])
abbrev qE:PE:=aP r5 (pi 1)
abbrev qF:PE:=aP r3 (pi 1)
abbrev zq:PE:=.con (.v (.int .u64 32))
abbrev agk:PE:=.setc (.con (.agg [(.list []),(.list []),(.list []),(.list []),(.list []),(.list []),(.list []),(.list [])])) 0 cT
abbrev agl:PE:=.put (.put (.put LQ (pi 11) (ba Ti Tj)) (pi 12) dL) (pi 13) (ba (.ai .and .i64 (pc o8 8) (pi 1)) (pi 0))
abbrev pw:PE:=pn r1 (pi 1)
abbrev D5:PE:=.setc se 0 (.tget dM 0)
abbrev S8:PE:=.put (.put SZ (pi 3) (pc o6 12)) (pi 4) (pc o8 0)
abbrev agm:PE:=.pick (bh (.llen (pc (pn (pc o1 1) r3) 4)) (pi 70)) pT (bh (.llen (pc (pn (pc o1 1) r3) 5)) (pi 210))
abbrev D6:PE:=.setc LJ 0 (pn jy iZ)
abbrev px:PE:=.llen zo
abbrev agn:PE:=.app o3 (.lst [(pc (.setc (.con (.agg [(.v (.string ⟨#[]⟩)),(.int 0),(.int 0)])) 0 (pn iZ eK)) 0)])
abbrev ago:PE:=.app o4 (.lst [(pc (.setc (.con (.agg [(.int 0),(.int 0),(.int 0),(.list [])])) 0 (pn eK nV)) 0)])
abbrev tX:PE:=.llen (pc o1 0)
abbrev agp:PE:=.an (.cb .eql (pc (pn r1 (pi 0)) 0) (pc zl 0)) (.an (aq (pc (pn r1 (pi 0)) 1) (pc zl 1)) pT)
abbrev agq:PE:=.app (.o 69637) (.lst [(.mk [(pc (.setc z2 0 (pn pz nX)) 0),(pc (.setc z2 0 (pn pz nX)) 1)])])
abbrev D7:PE:=.ai .shr .u64 sf zm
abbrev S9:PE:=.setc o4 0 (.mk [(pc o9 0),(pc o9 1),(pc o9 2)])
abbrev agr:PE:=.pick (.nt (.nt (.an (.an dv pT) (.nt pF)))) (.app (.o 1000) (.lst [(.tup [r5])])) (.o 1000)
abbrev tY:PE:=bC r3 (pi 1)
abbrev zr:PE:=ba (pi 100) (pi 0)
abbrev ags:PE:=.pick (bh (aP LN (pi 3)) (pi 12)) (bC (aP LN (pi 3)) (pi 12)) (aP LN (pi 3))
abbrev agt:PE:=.setc o4 0 (.mk [(pc (.setc fD 0 (.tget lV 0)) 0),(pc (.setc fD 0 (.tget lV 0)) 1)])
abbrev D8:PE:=.setc z9 0 (pn r34 kG)
abbrev LO:PE:=.setc fD 0 (.mk [pT,(pi 0)])
abbrev LP:PE:=bC (.llen (pc o3 3)) (pi 1)
abbrev wz:PE:=pn (pc o1 4) r4
abbrev Ta:PE:=aq (.sidx r0 r3) (.con (.v (.int .u8 95)))
abbrev wB:PE:=pc (.mk [r0]) 5
abbrev wC:PE:=pc (.mk [r0]) 4
abbrev agu:PE:=.pick (.pick (aq (pc zp 0) r1) (bV (pc zp 1) r2) pF) (bV r2 (pc zp 2)) pF
abbrev wD:PE:=.mk [pF,(pi 0)]
abbrev wE:PE:=.llen (pc o1 7)
abbrev D9:PE:=.con (.agg [(.int 0)])
abbrev Ea:PE:=.ai .shr .u64 r0 zm
abbrev Eb:PE:=.ai .shr .u32 r0 zm
abbrev agv:PE:=aP wx (.ai .mul .i64 (pi 400) (.ai .quo .i64 (aP r0 (pi 730425)) (pi 146097)))
abbrev qH:PE:=pn dv dM
abbrev sl:PE:=aj dv dL
abbrev Tb:PE:=.app o5 (.lst [(pc (pn (pc o1 1) r6) 0)])
abbrev Tc:PE:=.app o4 (.lst [(pc (pn (pc o1 3) r5) 0)])
abbrev wF:PE:=aP r8 (pi 1)
abbrev zt:PE:=pi 1099511627776
abbrev zu:PE:=bR mS (pi 0)
abbrev LR:PE:=.con (.v (.int .u64 256))
abbrev zw:PE:=aP dv (pi 1)
abbrev Td:PE:=.pick (bR r0 (pi 0)) (aj r0 r1) pF
abbrev zi:PE:=.llen (pc o1 5)
abbrev af7:PE:=.setc o4 0 (.mk [(pc (.setc fD 0 LZ) 0),(pc (.setc fD 0 LZ) 1)])
abbrev af8:PE:=.setc o4 0 (.mk [(pc (.setc fD 0 ld) 0),(pc (.setc fD 0 ld) 1)])
abbrev af9:PE:=.setc kZ 0 (.mk [(.lst [(pi 1),(pi (-1)),(pi (-1))]),(pi (-1))])
abbrev aga:PE:=.pick (ba (pc o3 22) (pi (-1))) (bC (pc o8 6) (pc o3 22)) (pi 0)
abbrev LH:PE:=.mk [la,sk,zo]
abbrev SY:PE:=.ai .rem .i64 (pn r8 cT) (pi 100)
abbrev zj:PE:=bC r7 (pi 1)
abbrev zk:PE:=bC r5 (pi 1)
abbrev agb:PE:=.app (.o 77829) (.lst [(.mk [(pc RS 0),(pc RS 1),(pc RS 2)])])
end Rm
