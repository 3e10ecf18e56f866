/-
  Shared texts of this claim.
-/
import Derived.Test.YtodhjdbleiakeaaGreatDoorMAJ
import Derived.Test.YtodhjdbleiakeaaGreatDoorProg
set_option linter.unusedSimpArgs false
set_option linter.unusedVariables false
namespace Rm
open Go Cx
abbrev str (b:ByteArray):D:=.v (.string b)
def strs (l:List ByteArray):D:=.list (l.map str)
@[simp] theorem aCk (l:List ByteArray):(strs l).l=l.map str:=_root_.id rfl
theorem str_inv {d:D}(h:DTy .str d):∃b,d=str b:=by
 cases h with
 |str b=>exact⟨b,rfl⟩
 |other t d h=>exact h.elim
theorem aCj {d:D}(h:DTy (.slice .str) d):∃l:List ByteArray,d=strs l∧l.length≤maxLen:=by
 obtain⟨xs,rfl,hm,hx⟩:=h.slice_inv;obtain⟨l,rfl,hl⟩:=jT (enc:=str) (P:=fun _=>True) fun x hh=>(str_inv (hx x hh)).imp fun b hb=>⟨hb,trivial⟩
 exact⟨l,rfl,by simpa using hm⟩
@[simp] theorem aHx (t:Tm):(dE t).cells=[.int t.op,.int t.n,.list (t.args.map dE)]:=by rw[B4];rfl
@[simp] theorem aHy (t:Tm):D.agg [.int t.op,.int t.n,.list (t.args.map dE)]=dE t:=(B4 t).symm
@[simp] theorem aHu (t:Tm):(dE t).c 0=.int t.op:=by rw[B4];rfl
@[simp] theorem aHv (t:Tm):(dE t).c 1=.int t.n:=by rw[B4];rfl
@[simp] theorem aHw (t:Tm):(dE t).c 2=.list (t.args.map dE):=by rw[B4];rfl
structure City where
 name:ByteArray
 order:Int
 currency:Int
 rest:List Int
 feasts:List Int
 shut:List Int
 deriving Inhabited
def fY (x:City):D:=.agg [str x.name,.int x.order,.int x.currency,ints x.rest,ints x.feasts,ints x.shut]
@[simp] theorem aGs (x:City):(fY x).cells=[str x.name,.int x.order,.int x.currency,ints x.rest,ints x.feasts,ints x.shut]:=_root_.id rfl
@[simp] theorem aKD (x:City):D.agg [str x.name,.int x.order,.int x.currency,ints x.rest,ints x.feasts,ints x.shut]=fY x:=_root_.id rfl
@[simp] theorem aHQ (x:City):j0 6 (fY x)=fY x:=_root_.id rfl
@[simp] theorem aGm (x:City):(fY x).c 0=str x.name:=_root_.id rfl
@[simp] theorem aGn (x:City):(fY x).c 1=.int x.order:=_root_.id rfl
@[simp] theorem aGo (x:City):(fY x).c 2=.int x.currency:=_root_.id rfl
@[simp] theorem aGp (x:City):(fY x).c 3=ints x.rest:=_root_.id rfl
@[simp] theorem aGq (x:City):(fY x).c 4=ints x.feasts:=_root_.id rfl
@[simp] theorem aGr (x:City):(fY x).c 5=ints x.shut:=_root_.id rfl
def uQ (l:List City):D:=.list (l.map fY)
@[simp] theorem aIh (l:List City):(uQ l).l=l.map fY:=_root_.id rfl
abbrev W0:Ty:=.agg [.str,.int .i64,.int .i64,.slice (.int .i64),.slice (.int .i64),.slice (.int .i64)]
def City.OK (x:City):Prop:=bh x.order∧bh x.currency∧(x.rest.length≤maxLen∧∀y,y∈x.rest→bh y)∧(x.feasts.length≤maxLen∧∀y,y∈x.feasts→bh y)∧(x.shut.length≤maxLen∧∀y,y∈x.shut→bh y)
theorem aoN {d:D}(h:DTy W0 d):∃x:City,d=fY x∧x.OK:=by
 obtain⟨ds,rfl,hs⟩:=h.agg_inv;obtain⟨d0,ds,rfl,h0,hs⟩:=hs.cons_inv;obtain⟨d1,ds,rfl,h1,hs⟩:=hs.cons_inv;obtain⟨d2,ds,rfl,h2,hs⟩:=hs.cons_inv;obtain⟨d3,ds,rfl,h3,hs⟩:=hs.cons_inv;obtain⟨d4,ds,rfl,h4,hs⟩:=hs.cons_inv;obtain⟨d5,ds,rfl,h5,hs⟩:=hs.cons_inv;obtain rfl:=hs.nil_inv;obtain⟨n0,rfl⟩:=str_inv h0;obtain⟨n1,rfl,b1⟩:=h1.i64_inv;obtain⟨n2,rfl,b2⟩:=h2.i64_inv;obtain⟨n3,rfl,b3,c3⟩:=h3.ints_inv;obtain⟨n4,rfl,b4,c4⟩:=h4.ints_inv;obtain⟨n5,rfl,b5,c5⟩:=h5.ints_inv;exact⟨⟨n0,n1,n2,n3,n4,n5⟩,rfl,⟨b1,b2,⟨b3,c3⟩,⟨b4,c4⟩,⟨b5,c5⟩⟩⟩
theorem aoO {d:D}(h:DTy (.slice W0) d):∃l:List City,d=uQ l∧l.length≤maxLen∧∀y,y∈l→City.OK y:=by
 obtain⟨xs,rfl,hm,hx⟩:=h.slice_inv;obtain⟨l,rfl,hl⟩:=jT (enc:=fY) (P:=City.OK) fun x hh=>aoN (hx x hh);exact⟨l,rfl,by simpa using hm,hl⟩
structure Firm where
 name:ByteArray
 city:Int
 group:Int
 deriving Inhabited
def ru (x:Firm):D:=.agg [str x.name,.int x.city,.int x.group]
@[simp] theorem aGI (x:Firm):(ru x).cells=[str x.name,.int x.city,.int x.group]:=_root_.id rfl
@[simp] theorem aKG (x:Firm):D.agg [str x.name,.int x.city,.int x.group]=ru x:=_root_.id rfl
@[simp] theorem aGF (x:Firm):(ru x).c 0=str x.name:=_root_.id rfl
@[simp] theorem aGG (x:Firm):(ru x).c 1=.int x.city:=_root_.id rfl
@[simp] theorem aGH (x:Firm):(ru x).c 2=.int x.group:=_root_.id rfl
def firms (l:List Firm):D:=.list (l.map ru)
@[simp] theorem aJu (l:List Firm):(firms l).l=l.map ru:=_root_.id rfl
abbrev W3:Ty:=.agg [.str,.int .i64,.int .i64]
def Firm.OK (x:Firm):Prop:=bh x.city∧bh x.group
theorem aqj {d:D}(h:DTy W3 d):∃x:Firm,d=ru x∧x.OK:=by
 obtain⟨ds,rfl,hs⟩:=h.agg_inv;obtain⟨d0,ds,rfl,h0,hs⟩:=hs.cons_inv;obtain⟨d1,ds,rfl,h1,hs⟩:=hs.cons_inv;obtain⟨d2,ds,rfl,h2,hs⟩:=hs.cons_inv;obtain rfl:=hs.nil_inv;obtain⟨n0,rfl⟩:=str_inv h0;obtain⟨n1,rfl,b1⟩:=h1.i64_inv;obtain⟨n2,rfl,b2⟩:=h2.i64_inv;exact⟨⟨n0,n1,n2⟩,rfl,⟨b1,b2⟩⟩
theorem aqk {d:D}(h:DTy (.slice W3) d):∃l:List Firm,d=firms l∧l.length≤maxLen∧∀y,y∈l→Firm.OK y:=by
 obtain⟨xs,rfl,hm,hx⟩:=h.slice_inv;obtain⟨l,rfl,hl⟩:=jT (enc:=ru) (P:=Firm.OK) fun x hh=>aqj (hx x hh);exact⟨l,rfl,by simpa using hm,hl⟩
structure Group where
 grade:Int
 deriving DecidableEq,Inhabited
def uV (x:Group):D:=.agg [.int x.grade]
@[simp] theorem aGK (x:Group):(uV x).cells=[.int x.grade]:=_root_.id rfl
@[simp] theorem aKH (x:Group):D.agg [.int x.grade]=uV x:=_root_.id rfl
@[simp] theorem aGJ (x:Group):(uV x).c 0=.int x.grade:=_root_.id rfl
def groups (l:List Group):D:=.list (l.map uV)
@[simp] theorem aJC (l:List Group):(groups l).l=l.map uV:=_root_.id rfl
abbrev W4:Ty:=.agg [.int .i64]
def Group.OK (x:Group):Prop:=bh x.grade
theorem as9 {d:D}(h:DTy W4 d):∃x:Group,d=uV x∧x.OK:=by
 obtain⟨ds,rfl,hs⟩:=h.agg_inv;obtain⟨d0,ds,rfl,h0,hs⟩:=hs.cons_inv;obtain rfl:=hs.nil_inv;obtain⟨n0,rfl,b0⟩:=h0.i64_inv;exact⟨⟨n0⟩,rfl,b0⟩
theorem ata {d:D}(h:DTy (.slice W4) d):∃l:List Group,d=groups l∧l.length≤maxLen∧∀y,y∈l→Group.OK y:=by
 obtain⟨xs,rfl,hm,hx⟩:=h.slice_inv;obtain⟨l,rfl,hl⟩:=jT (enc:=uV) (P:=Group.OK) fun x hh=>as9 (hx x hh);exact⟨l,rfl,by simpa using hm,hl⟩
structure Usance where
 fr:Int
 to:Int
 days:Int
 deriving DecidableEq,Inhabited
def rA (x:Usance):D:=.agg [.int x.fr,.int x.to,.int x.days]
@[simp] theorem aHH (x:Usance):(rA x).cells=[.int x.fr,.int x.to,.int x.days]:=_root_.id rfl
@[simp] theorem aKR (x:Usance):D.agg [.int x.fr,.int x.to,.int x.days]=rA x:=_root_.id rfl
@[simp] theorem aHE (x:Usance):(rA x).c 0=.int x.fr:=_root_.id rfl
@[simp] theorem aHF (x:Usance):(rA x).c 1=.int x.to:=_root_.id rfl
@[simp] theorem aHG (x:Usance):(rA x).c 2=.int x.days:=_root_.id rfl
def usances (l:List Usance):D:=.list (l.map rA)
@[simp] theorem aLY (l:List Usance):(usances l).l=l.map rA:=_root_.id rfl
abbrev Xa:Ty:=.agg [.int .i64,.int .i64,.int .i64]
def Usance.OK (x:Usance):Prop:=bh x.fr∧bh x.to∧bh x.days
theorem aE2 {d:D}(h:DTy Xa d):∃x:Usance,d=rA x∧x.OK:=by
 obtain⟨ds,rfl,hs⟩:=h.agg_inv;obtain⟨d0,ds,rfl,h0,hs⟩:=hs.cons_inv;obtain⟨d1,ds,rfl,h1,hs⟩:=hs.cons_inv;obtain⟨d2,ds,rfl,h2,hs⟩:=hs.cons_inv;obtain rfl:=hs.nil_inv;obtain⟨n0,rfl,b0⟩:=h0.i64_inv;obtain⟨n1,rfl,b1⟩:=h1.i64_inv;obtain⟨n2,rfl,b2⟩:=h2.i64_inv;exact⟨⟨n0,n1,n2⟩,rfl,⟨b0,b1,b2⟩⟩
theorem aE3 {d:D}(h:DTy (.slice Xa) d):∃l:List Usance,d=usances l∧l.length≤maxLen∧∀y,y∈l→Usance.OK y:=by
 obtain⟨xs,rfl,hm,hx⟩:=h.slice_inv;obtain⟨l,rfl,hl⟩:=jT (enc:=rA) (P:=Usance.OK) fun x hh=>aE2 (hx x hh);exact⟨l,rfl,by simpa using hm,hl⟩
structure Rate where
 fr:Int
 to:Int
 num:Int
 den:Int
 since:Int
 deriving DecidableEq,Inhabited
def oS (x:Rate):D:=.agg [.int x.fr,.int x.to,.int x.num,.int x.den,.int x.since]
@[simp] theorem aGZ (x:Rate):(oS x).cells=[.int x.fr,.int x.to,.int x.num,.int x.den,.int x.since]:=_root_.id rfl
@[simp] theorem aKK (x:Rate):D.agg [.int x.fr,.int x.to,.int x.num,.int x.den,.int x.since]=oS x:=_root_.id rfl
@[simp] theorem aGU (x:Rate):(oS x).c 0=.int x.fr:=_root_.id rfl
@[simp] theorem aGV (x:Rate):(oS x).c 1=.int x.to:=_root_.id rfl
@[simp] theorem aGW (x:Rate):(oS x).c 2=.int x.num:=_root_.id rfl
@[simp] theorem aGX (x:Rate):(oS x).c 3=.int x.den:=_root_.id rfl
@[simp] theorem aGY (x:Rate):(oS x).c 4=.int x.since:=_root_.id rfl
def rates (l:List Rate):D:=.list (l.map oS)
@[simp] theorem aLo (l:List Rate):(rates l).l=l.map oS:=_root_.id rfl
abbrev W7:Ty:=.agg [.int .i64,.int .i64,.int .i64,.int .i64,.int .i64]
def Rate.OK (x:Rate):Prop:=bh x.fr∧bh x.to∧bh x.num∧bh x.den∧bh x.since
theorem aBj {d:D}(h:DTy W7 d):∃x:Rate,d=oS x∧x.OK:=by
 obtain⟨ds,rfl,hs⟩:=h.agg_inv;obtain⟨d0,ds,rfl,h0,hs⟩:=hs.cons_inv;obtain⟨d1,ds,rfl,h1,hs⟩:=hs.cons_inv;obtain⟨d2,ds,rfl,h2,hs⟩:=hs.cons_inv;obtain⟨d3,ds,rfl,h3,hs⟩:=hs.cons_inv;obtain⟨d4,ds,rfl,h4,hs⟩:=hs.cons_inv;obtain rfl:=hs.nil_inv;obtain⟨n0,rfl,b0⟩:=h0.i64_inv;obtain⟨n1,rfl,b1⟩:=h1.i64_inv;obtain⟨n2,rfl,b2⟩:=h2.i64_inv;obtain⟨n3,rfl,b3⟩:=h3.i64_inv;obtain⟨n4,rfl,b4⟩:=h4.i64_inv;exact⟨⟨n0,n1,n2,n3,n4⟩,rfl,⟨b0,b1,b2,b3,b4⟩⟩
theorem aBk {d:D}(h:DTy (.slice W7) d):∃l:List Rate,d=rates l∧l.length≤maxLen∧∀y,y∈l→Rate.OK y:=by
 obtain⟨xs,rfl,hm,hx⟩:=h.slice_inv;obtain⟨l,rfl,hl⟩:=jT (enc:=oS) (P:=Rate.OK) fun x hh=>aBj (hx x hh);exact⟨l,rfl,by simpa using hm,hl⟩
structure Halt where
 order:Int
 fr:Int
 to:Int
 deriving DecidableEq,Inhabited
def rv (x:Halt):D:=.agg [.int x.order,.int x.fr,.int x.to]
@[simp] theorem aGO (x:Halt):(rv x).cells=[.int x.order,.int x.fr,.int x.to]:=_root_.id rfl
@[simp] theorem aKI (x:Halt):D.agg [.int x.order,.int x.fr,.int x.to]=rv x:=_root_.id rfl
@[simp] theorem aGL (x:Halt):(rv x).c 0=.int x.order:=_root_.id rfl
@[simp] theorem aGM (x:Halt):(rv x).c 1=.int x.fr:=_root_.id rfl
@[simp] theorem aGN (x:Halt):(rv x).c 2=.int x.to:=_root_.id rfl
def halts (l:List Halt):D:=.list (l.map rv)
@[simp] theorem aJK (l:List Halt):(halts l).l=l.map rv:=_root_.id rfl
abbrev W5:Ty:=.agg [.int .i64,.int .i64,.int .i64]
def Halt.OK (x:Halt):Prop:=bh x.order∧bh x.fr∧bh x.to
theorem atM {d:D}(h:DTy W5 d):∃x:Halt,d=rv x∧x.OK:=by
 obtain⟨ds,rfl,hs⟩:=h.agg_inv;obtain⟨d0,ds,rfl,h0,hs⟩:=hs.cons_inv;obtain⟨d1,ds,rfl,h1,hs⟩:=hs.cons_inv;obtain⟨d2,ds,rfl,h2,hs⟩:=hs.cons_inv;obtain rfl:=hs.nil_inv;obtain⟨n0,rfl,b0⟩:=h0.i64_inv;obtain⟨n1,rfl,b1⟩:=h1.i64_inv;obtain⟨n2,rfl,b2⟩:=h2.i64_inv;exact⟨⟨n0,n1,n2⟩,rfl,⟨b0,b1,b2⟩⟩
theorem atN {d:D}(h:DTy (.slice W5) d):∃l:List Halt,d=halts l∧l.length≤maxLen∧∀y,y∈l→Halt.OK y:=by
 obtain⟨xs,rfl,hm,hx⟩:=h.slice_inv;obtain⟨l,rfl,hl⟩:=jT (enc:=rv) (P:=Halt.OK) fun x hh=>atM (hx x hh);exact⟨l,rfl,by simpa using hm,hl⟩
structure Choice where
 ask:Int
 by_:Int
 whole:Bool
 deriving DecidableEq,Inhabited
def sU (x:Choice):D:=.agg [.int x.ask,.int x.by_,.bool x.whole]
@[simp] theorem aGl (x:Choice):(sU x).cells=[.int x.ask,.int x.by_,.bool x.whole]:=_root_.id rfl
@[simp] theorem aKC (x:Choice):D.agg [.int x.ask,.int x.by_,.bool x.whole]=sU x:=_root_.id rfl
@[simp] theorem aGj (x:Choice):(sU x).c 0=.int x.ask:=_root_.id rfl
@[simp] theorem aGk (x:Choice):(sU x).c 1=.int x.by_:=_root_.id rfl
def choices (l:List Choice):D:=.list (l.map sU)
@[simp] theorem aIg (l:List Choice):(choices l).l=l.map sU:=_root_.id rfl
abbrev WZ:Ty:=.agg [.int .i64,.int .i64,.bool]
def Choice.OK (x:Choice):Prop:=bh x.ask∧bh x.by_
theorem aoK {d:D}(h:DTy WZ d):∃x:Choice,d=sU x∧x.OK:=by
 obtain⟨ds,rfl,hs⟩:=h.agg_inv;obtain⟨d0,ds,rfl,h0,hs⟩:=hs.cons_inv;obtain⟨d1,ds,rfl,h1,hs⟩:=hs.cons_inv;obtain⟨d2,ds,rfl,h2,hs⟩:=hs.cons_inv;obtain rfl:=hs.nil_inv;obtain⟨n0,rfl,b0⟩:=h0.i64_inv;obtain⟨n1,rfl,b1⟩:=h1.i64_inv;obtain⟨n2,rfl⟩:=h2.bool_inv;exact⟨⟨n0,n1,n2⟩,rfl,⟨b0,b1⟩⟩
theorem aoL {d:D}(h:DTy (.slice WZ) d):∃l:List Choice,d=choices l∧l.length≤maxLen∧∀y,y∈l→Choice.OK y:=by
 obtain⟨xs,rfl,hm,hx⟩:=h.slice_inv;obtain⟨l,rfl,hl⟩:=jT (enc:=sU) (P:=Choice.OK) fun x hh=>aoK (hx x hh);exact⟨l,rfl,by simpa using hm,hl⟩
structure Rule where
 ask:Int
 term:Tm
 deriving Inhabited
def ry (x:Rule):D:=.agg [.int x.ask,.int x.term.op,.int x.term.n,.list (x.term.args.map dE)]
@[simp] theorem aHa (x:Rule):(ry x).cells=[.int x.ask,.int x.term.op,.int x.term.n,.list (x.term.args.map dE)]:=_root_.id rfl
@[simp] theorem aKM (x:Rule):D.agg [.int x.ask,.int x.term.op,.int x.term.n,.list (x.term.args.map dE)]=ry x:=_root_.id rfl
@[simp] theorem aG9 (x:Rule):(ry x).c 0=.int x.ask:=_root_.id rfl
def rules (l:List Rule):D:=.list (l.map ry)
@[simp] theorem aLs (l:List Rule):(rules l).l=l.map ry:=_root_.id rfl
abbrev W8:Ty:=.agg [.int .i64,.int .i64,.int .i64,.slice .trm]
def Rule.OK (x:Rule):Prop:=bh x.ask∧Tm.OK x.term
theorem aBV {d:D}(h:DTy W8 d):∃x:Rule,d=ry x∧x.OK:=by
 obtain⟨ds,rfl,hs⟩:=h.agg_inv;obtain⟨d0,ds,rfl,h0,hs⟩:=hs.cons_inv;obtain⟨d1,ds,rfl,h1,hs⟩:=hs.cons_inv;obtain⟨d2,ds,rfl,h2,hs⟩:=hs.cons_inv;obtain⟨d3,ds,rfl,h3,hs⟩:=hs.cons_inv;obtain rfl:=hs.nil_inv;obtain⟨n0,rfl,b0⟩:=h0.i64_inv;obtain⟨n1,rfl,b1⟩:=h1.i64_inv;obtain⟨n2,rfl,b2⟩:=h2.i64_inv;obtain⟨n3,rfl,b3,c3⟩:=h3.trms_inv;exact⟨⟨n0,.mk n1 n2 n3⟩,rfl,⟨b0,.mk _ _ _ b1 b2 b3 c3⟩⟩
theorem aBW {d:D}(h:DTy (.slice W8) d):∃l:List Rule,d=rules l∧l.length≤maxLen∧∀y,y∈l→Rule.OK y:=by
 obtain⟨xs,rfl,hm,hx⟩:=h.slice_inv;obtain⟨l,rfl,hl⟩:=jT (enc:=ry) (P:=Rule.OK) fun x hh=>aBV (hx x hh);exact⟨l,rfl,by simpa using hm,hl⟩
structure Order where
 name:ByteArray
 accepts:Bool
 choices:List Choice
 rules:List Rule
 deriving Inhabited
def iJ (x:Order):D:=.agg [str x.name,.bool x.accepts,choices x.choices,rules x.rules]
@[simp] theorem aGT (x:Order):(iJ x).cells=[str x.name,.bool x.accepts,choices x.choices,rules x.rules]:=_root_.id rfl
@[simp] theorem aKJ (x:Order):D.agg [str x.name,.bool x.accepts,choices x.choices,rules x.rules]=iJ x:=_root_.id rfl
@[simp] theorem aHS (x:Order):j0 4 (iJ x)=iJ x:=_root_.id rfl
@[simp] theorem aGP (x:Order):(iJ x).c 0=str x.name:=_root_.id rfl
@[simp] theorem aGQ (x:Order):(iJ x).c 1=.bool x.accepts:=_root_.id rfl
@[simp] theorem aGR (x:Order):(iJ x).c 2=choices x.choices:=_root_.id rfl
@[simp] theorem aGS (x:Order):(iJ x).c 3=rules x.rules:=_root_.id rfl
def orders (l:List Order):D:=.list (l.map iJ)
@[simp] theorem aK6 (l:List Order):(orders l).l=l.map iJ:=_root_.id rfl
abbrev W6:Ty:=.agg [.str,.bool,.slice WZ,.slice W8]
def Order.OK (x:Order):Prop:=(x.choices.length≤maxLen∧∀y,y∈x.choices→Choice.OK y)∧(x.rules.length≤maxLen∧∀y,y∈x.rules→Rule.OK y)
theorem aAt {d:D}(h:DTy W6 d):∃x:Order,d=iJ x∧x.OK:=by
 obtain⟨ds,rfl,hs⟩:=h.agg_inv;obtain⟨d0,ds,rfl,h0,hs⟩:=hs.cons_inv;obtain⟨d1,ds,rfl,h1,hs⟩:=hs.cons_inv;obtain⟨d2,ds,rfl,h2,hs⟩:=hs.cons_inv;obtain⟨d3,ds,rfl,h3,hs⟩:=hs.cons_inv;obtain rfl:=hs.nil_inv;obtain⟨n0,rfl⟩:=str_inv h0;obtain⟨n1,rfl⟩:=h1.bool_inv;obtain⟨n2,rfl,b2,c2⟩:=aoL h2;obtain⟨n3,rfl,b3,c3⟩:=aBW h3;exact⟨⟨n0,n1,n2,n3⟩,rfl,⟨⟨b2,c2⟩,⟨b3,c3⟩⟩⟩
theorem aAu {d:D}(h:DTy (.slice W6) d):∃l:List Order,d=orders l∧l.length≤maxLen∧∀y,y∈l→Order.OK y:=by
 obtain⟨xs,rfl,hm,hx⟩:=h.slice_inv;obtain⟨l,rfl,hl⟩:=jT (enc:=iJ) (P:=Order.OK) fun x hh=>aAt (hx x hh);exact⟨l,rfl,by simpa using hm,hl⟩
structure Realm where
 currencies:List ByteArray
 cities:List City
 groups:List Group
 firms:List Firm
 orders:List Order
 usances:List Usance
 rates:List Rate
 halts:List Halt
 deriving Inhabited
def bn (x:Realm):D:=.agg [strs x.currencies,uQ x.cities,groups x.groups,firms x.firms,orders x.orders,usances x.usances,rates x.rates,halts x.halts]
@[simp] theorem aG8 (x:Realm):(bn x).cells=[strs x.currencies,uQ x.cities,groups x.groups,firms x.firms,orders x.orders,usances x.usances,rates x.rates,halts x.halts]:=_root_.id rfl
@[simp] theorem aKL (x:Realm):D.agg [strs x.currencies,uQ x.cities,groups x.groups,firms x.firms,orders x.orders,usances x.usances,rates x.rates,halts x.halts]=bn x:=_root_.id rfl
@[simp] theorem aHT (x:Realm):j0 8 (bn x)=bn x:=_root_.id rfl
@[simp] theorem aLa (x:Realm)(a0 a1 a2 a3 a4 a5 a6 a7:D):D.agg (dU [a0,a1,a2,a3,a4,a5,a6,a7] 0 [strs x.currencies,uQ x.cities,groups x.groups,firms x.firms,orders x.orders,usances x.usances,rates x.rates,halts x.halts])=bn x:=_root_.id rfl
@[simp] theorem aG0 (x:Realm):(bn x).c 0=strs x.currencies:=_root_.id rfl
@[simp] theorem aG1 (x:Realm):(bn x).c 1=uQ x.cities:=_root_.id rfl
@[simp] theorem aG2 (x:Realm):(bn x).c 2=groups x.groups:=_root_.id rfl
@[simp] theorem aG3 (x:Realm):(bn x).c 3=firms x.firms:=_root_.id rfl
@[simp] theorem aG4 (x:Realm):(bn x).c 4=orders x.orders:=_root_.id rfl
@[simp] theorem aG5 (x:Realm):(bn x).c 5=usances x.usances:=_root_.id rfl
@[simp] theorem aG6 (x:Realm):(bn x).c 6=rates x.rates:=_root_.id rfl
@[simp] theorem aG7 (x:Realm):(bn x).c 7=halts x.halts:=_root_.id rfl
abbrev aER:Ty:=.agg [.slice .str,.slice W0,.slice W4,.slice W3,.slice W6,.slice Xa,.slice W7,.slice W5]
def Realm.OK (x:Realm):Prop:=x.currencies.length≤maxLen∧(x.cities.length≤maxLen∧∀y,y∈x.cities→City.OK y)∧(x.groups.length≤maxLen∧∀y,y∈x.groups→Group.OK y)∧(x.firms.length≤maxLen∧∀y,y∈x.firms→Firm.OK y)∧(x.orders.length≤maxLen∧∀y,y∈x.orders→Order.OK y)∧(x.usances.length≤maxLen∧∀y,y∈x.usances→Usance.OK y)∧(x.rates.length≤maxLen∧∀y,y∈x.rates→Rate.OK y)∧(x.halts.length≤maxLen∧∀y,y∈x.halts→Halt.OK y)
theorem aBy {d:D}(h:DTy aER d):∃x:Realm,d=bn x∧x.OK:=by
 obtain⟨ds,rfl,hs⟩:=h.agg_inv;obtain⟨d0,ds,rfl,h0,hs⟩:=hs.cons_inv;obtain⟨d1,ds,rfl,h1,hs⟩:=hs.cons_inv;obtain⟨d2,ds,rfl,h2,hs⟩:=hs.cons_inv;obtain⟨d3,ds,rfl,h3,hs⟩:=hs.cons_inv;obtain⟨d4,ds,rfl,h4,hs⟩:=hs.cons_inv;obtain⟨d5,ds,rfl,h5,hs⟩:=hs.cons_inv;obtain⟨d6,ds,rfl,h6,hs⟩:=hs.cons_inv;obtain⟨d7,ds,rfl,h7,hs⟩:=hs.cons_inv;obtain rfl:=hs.nil_inv;obtain⟨n0,rfl,b0⟩:=aCj h0;obtain⟨n1,rfl,b1,c1⟩:=aoO h1;obtain⟨n2,rfl,b2,c2⟩:=ata h2;obtain⟨n3,rfl,b3,c3⟩:=aqk h3;obtain⟨n4,rfl,b4,c4⟩:=aAu h4;obtain⟨n5,rfl,b5,c5⟩:=aE3 h5;obtain⟨n6,rfl,b6,c6⟩:=aBk h6;obtain⟨n7,rfl,b7,c7⟩:=atN h7;exact⟨⟨n0,n1,n2,n3,n4,n5,n6,n7⟩,rfl,⟨b0,⟨b1,c1⟩,⟨b2,c2⟩,⟨b3,c3⟩,⟨b4,c4⟩,⟨b5,c5⟩,⟨b6,c6⟩,⟨b7,c7⟩⟩⟩
structure Tenor where
 kind:Int
 n:Int
 unit:Int
 deriving DecidableEq,Inhabited
def rz (x:Tenor):D:=.agg [.int x.kind,.int x.n,.int x.unit]
@[simp] theorem aHC (x:Tenor):(rz x).cells=[.int x.kind,.int x.n,.int x.unit]:=_root_.id rfl
@[simp] theorem aKQ (x:Tenor):D.agg [.int x.kind,.int x.n,.int x.unit]=rz x:=_root_.id rfl
@[simp] theorem aHz (x:Tenor):(rz x).c 0=.int x.kind:=_root_.id rfl
@[simp] theorem aHA (x:Tenor):(rz x).c 1=.int x.n:=_root_.id rfl
@[simp] theorem aHB (x:Tenor):(rz x).c 2=.int x.unit:=_root_.id rfl
def Tenor.OK (x:Tenor):Prop:=bh x.kind∧bh x.n∧bh x.unit
structure Bill where
 drawer:Int
 drawee:Int
 payee:Int
 sum:Int
 currency:Int
 tenor:Tenor
 day:Int
 city:Int
 pay:Int
 need:Int
 rate:Int
 flags:Int
 parts:Int
 deriving DecidableEq,Inhabited
def dN (x:Bill):D:=.agg [.int x.drawer,.int x.drawee,.int x.payee,.int x.sum,.int x.currency,.int x.tenor.kind,.int x.tenor.n,.int x.tenor.unit,.int x.day,.int x.city,.int x.pay,.int x.need,.int x.rate,.int x.flags,.int x.parts]
@[simp] theorem aF6 (x:Bill):(dN x).cells=[.int x.drawer,.int x.drawee,.int x.payee,.int x.sum,.int x.currency,.int x.tenor.kind,.int x.tenor.n,.int x.tenor.unit,.int x.day,.int x.city,.int x.pay,.int x.need,.int x.rate,.int x.flags,.int x.parts]:=_root_.id rfl
@[simp] theorem aKz (x:Bill):D.agg [.int x.drawer,.int x.drawee,.int x.payee,.int x.sum,.int x.currency,.int x.tenor.kind,.int x.tenor.n,.int x.tenor.unit,.int x.day,.int x.city,.int x.pay,.int x.need,.int x.rate,.int x.flags,.int x.parts]=dN x:=_root_.id rfl
@[simp] theorem aHP (x:Bill):j0 15 (dN x)=dN x:=_root_.id rfl
@[simp] theorem aK7 (x:Bill)(a0 a1 a2 a3 a4 a5 a6 a7 a8 a9 lu lx ly lz lC:D):D.agg (dU [a0,a1,a2,a3,a4,a5,a6,a7,a8,a9,lu,lx,ly,lz,lC] 0 [.int x.drawer,.int x.drawee,.int x.payee,.int x.sum,.int x.currency,.int x.tenor.kind,.int x.tenor.n,.int x.tenor.unit,.int x.day,.int x.city,.int x.pay,.int x.need,.int x.rate,.int x.flags,.int x.parts])=dN x:=_root_.id rfl
@[simp] theorem aFR (x:Bill):(dN x).c 0=.int x.drawer:=_root_.id rfl
@[simp] theorem aFS (x:Bill):(dN x).c 1=.int x.drawee:=_root_.id rfl
@[simp] theorem aFY (x:Bill):(dN x).c 2=.int x.payee:=_root_.id rfl
@[simp] theorem aFZ (x:Bill):(dN x).c 3=.int x.sum:=_root_.id rfl
@[simp] theorem aF0 (x:Bill):(dN x).c 4=.int x.currency:=_root_.id rfl
@[simp] theorem aF1 (x:Bill):(dN x).c 5=.int x.tenor.kind:=_root_.id rfl
@[simp] theorem aF2 (x:Bill):(dN x).c 6=.int x.tenor.n:=_root_.id rfl
@[simp] theorem aF3 (x:Bill):(dN x).c 7=.int x.tenor.unit:=_root_.id rfl
@[simp] theorem aF4 (x:Bill):(dN x).c 8=.int x.day:=_root_.id rfl
@[simp] theorem aF5 (x:Bill):(dN x).c 9=.int x.city:=_root_.id rfl
@[simp] theorem aFT (x:Bill):(dN x).c 10=.int x.pay:=_root_.id rfl
@[simp] theorem aFU (x:Bill):(dN x).c 11=.int x.need:=_root_.id rfl
@[simp] theorem aFV (x:Bill):(dN x).c 12=.int x.rate:=_root_.id rfl
@[simp] theorem aFW (x:Bill):(dN x).c 13=.int x.flags:=_root_.id rfl
@[simp] theorem aFX (x:Bill):(dN x).c 14=.int x.parts:=_root_.id rfl
def Bill.OK (x:Bill):Prop:=bh x.drawer∧bh x.drawee∧bh x.payee∧bh x.sum∧bh x.currency∧Tenor.OK x.tenor∧bh x.day∧bh x.city∧bh x.pay∧bh x.need∧bh x.rate∧bh x.flags∧bh x.parts
structure Sign where
 kind:Int
 part:Int
 who:Int
 for_:Int
 to:Int
 sum:Int
 day:Int
 city:Int
 flags:Int
 deriving DecidableEq,Inhabited
def jI (x:Sign):D:=.agg [.int x.kind,.int x.part,.int x.who,.int x.for_,.int x.to,.int x.sum,.int x.day,.int x.city,.int x.flags]
@[simp] theorem aHt (x:Sign):(jI x).cells=[.int x.kind,.int x.part,.int x.who,.int x.for_,.int x.to,.int x.sum,.int x.day,.int x.city,.int x.flags]:=_root_.id rfl
@[simp] theorem aKP (x:Sign):D.agg [.int x.kind,.int x.part,.int x.who,.int x.for_,.int x.to,.int x.sum,.int x.day,.int x.city,.int x.flags]=jI x:=_root_.id rfl
@[simp] theorem aHV (x:Sign):j0 9 (jI x)=jI x:=_root_.id rfl
@[simp] theorem aHk (x:Sign):(jI x).c 0=.int x.kind:=_root_.id rfl
@[simp] theorem aHl (x:Sign):(jI x).c 1=.int x.part:=_root_.id rfl
@[simp] theorem aHm (x:Sign):(jI x).c 2=.int x.who:=_root_.id rfl
@[simp] theorem aHn (x:Sign):(jI x).c 3=.int x.for_:=_root_.id rfl
@[simp] theorem aHo (x:Sign):(jI x).c 4=.int x.to:=_root_.id rfl
@[simp] theorem aHp (x:Sign):(jI x).c 5=.int x.sum:=_root_.id rfl
@[simp] theorem aHq (x:Sign):(jI x).c 6=.int x.day:=_root_.id rfl
@[simp] theorem aHr (x:Sign):(jI x).c 7=.int x.city:=_root_.id rfl
@[simp] theorem aHs (x:Sign):(jI x).c 8=.int x.flags:=_root_.id rfl
def signs (l:List Sign):D:=.list (l.map jI)
@[simp] theorem aLD (l:List Sign):(signs l).l=l.map jI:=_root_.id rfl
@[simp] theorem aLC (l:List Sign):(signs l).cells=[signs l]:=_root_.id rfl
abbrev W9:Ty:=.agg [.int .i64,.int .i64,.int .i64,.int .i64,.int .i64,.int .i64,.int .i64,.int .i64,.int .i64]
def Sign.OK (x:Sign):Prop:=bh x.kind∧bh x.part∧bh x.who∧bh x.for_∧bh x.to∧bh x.sum∧bh x.day∧bh x.city∧bh x.flags
theorem aCf {d:D}(h:DTy W9 d):∃x:Sign,d=jI x∧x.OK:=by
 obtain⟨ds,rfl,hs⟩:=h.agg_inv;obtain⟨d0,ds,rfl,h0,hs⟩:=hs.cons_inv;obtain⟨d1,ds,rfl,h1,hs⟩:=hs.cons_inv;obtain⟨d2,ds,rfl,h2,hs⟩:=hs.cons_inv;obtain⟨d3,ds,rfl,h3,hs⟩:=hs.cons_inv;obtain⟨d4,ds,rfl,h4,hs⟩:=hs.cons_inv;obtain⟨d5,ds,rfl,h5,hs⟩:=hs.cons_inv;obtain⟨d6,ds,rfl,h6,hs⟩:=hs.cons_inv;obtain⟨d7,ds,rfl,h7,hs⟩:=hs.cons_inv;obtain⟨d8,ds,rfl,h8,hs⟩:=hs.cons_inv;obtain rfl:=hs.nil_inv;obtain⟨n0,rfl,b0⟩:=h0.i64_inv;obtain⟨n1,rfl,b1⟩:=h1.i64_inv;obtain⟨n2,rfl,b2⟩:=h2.i64_inv;obtain⟨n3,rfl,b3⟩:=h3.i64_inv;obtain⟨n4,rfl,b4⟩:=h4.i64_inv;obtain⟨n5,rfl,b5⟩:=h5.i64_inv;obtain⟨n6,rfl,b6⟩:=h6.i64_inv;obtain⟨n7,rfl,b7⟩:=h7.i64_inv;obtain⟨n8,rfl,b8⟩:=h8.i64_inv;exact⟨⟨n0,n1,n2,n3,n4,n5,n6,n7,n8⟩,rfl,⟨b0,b1,b2,b3,b4,b5,b6,b7,b8⟩⟩
theorem aCg {d:D}(h:DTy (.slice W9) d):∃l:List Sign,d=signs l∧l.length≤maxLen∧∀y,y∈l→Sign.OK y:=by
 obtain⟨xs,rfl,hm,hx⟩:=h.slice_inv;obtain⟨l,rfl,hl⟩:=jT (enc:=jI) (P:=Sign.OK) fun x hh=>aCf (hx x hh);exact⟨l,rfl,by simpa using hm,hl⟩
structure Alter where
 at_:Int
 sum:Int
 deriving DecidableEq,Inhabited
def oR (x:Alter):D:=.agg [.int x.at_,.int x.sum]
@[simp] theorem aFQ (x:Alter):(oR x).cells=[.int x.at_,.int x.sum]:=_root_.id rfl
@[simp] theorem aKy (x:Alter):D.agg [.int x.at_,.int x.sum]=oR x:=_root_.id rfl
@[simp] theorem aFO (x:Alter):(oR x).c 0=.int x.at_:=_root_.id rfl
@[simp] theorem aFP (x:Alter):(oR x).c 1=.int x.sum:=_root_.id rfl
def alters (l:List Alter):D:=.list (l.map oR)
@[simp] theorem aHY (l:List Alter):(alters l).l=l.map oR:=_root_.id rfl
@[simp] theorem aHX (l:List Alter):(alters l).cells=[alters l]:=_root_.id rfl
abbrev WY:Ty:=.agg [.int .i64,.int .i64]
def Alter.OK (x:Alter):Prop:=bh x.at_∧bh x.sum
theorem ajP {d:D}(h:DTy WY d):∃x:Alter,d=oR x∧x.OK:=by
 obtain⟨ds,rfl,hs⟩:=h.agg_inv;obtain⟨d0,ds,rfl,h0,hs⟩:=hs.cons_inv;obtain⟨d1,ds,rfl,h1,hs⟩:=hs.cons_inv;obtain rfl:=hs.nil_inv;obtain⟨n0,rfl,b0⟩:=h0.i64_inv;obtain⟨n1,rfl,b1⟩:=h1.i64_inv;exact⟨⟨n0,n1⟩,rfl,⟨b0,b1⟩⟩
theorem ajQ {d:D}(h:DTy (.slice WY) d):∃l:List Alter,d=alters l∧l.length≤maxLen∧∀y,y∈l→Alter.OK y:=by
 obtain⟨xs,rfl,hm,hx⟩:=h.slice_inv;obtain⟨l,rfl,hl⟩:=jT (enc:=oR) (P:=Alter.OK) fun x hh=>ajP (hx x hh);exact⟨l,rfl,by simpa using hm,hl⟩
structure Act where
 kind:Int
 who:Int
 to:Int
 part:Int
 at_:Int
 sum:Int
 day:Int
 city:Int
 form:Int
 deriving DecidableEq,Inhabited
def ji (x:Act):D:=.agg [.int x.kind,.int x.who,.int x.to,.int x.part,.int x.at_,.int x.sum,.int x.day,.int x.city,.int x.form]
@[simp] theorem aFN (x:Act):(ji x).cells=[.int x.kind,.int x.who,.int x.to,.int x.part,.int x.at_,.int x.sum,.int x.day,.int x.city,.int x.form]:=_root_.id rfl
@[simp] theorem aKx (x:Act):D.agg [.int x.kind,.int x.who,.int x.to,.int x.part,.int x.at_,.int x.sum,.int x.day,.int x.city,.int x.form]=ji x:=_root_.id rfl
@[simp] theorem aHO (x:Act):j0 9 (ji x)=ji x:=_root_.id rfl
@[simp] theorem aFE (x:Act):(ji x).c 0=.int x.kind:=_root_.id rfl
@[simp] theorem aFF (x:Act):(ji x).c 1=.int x.who:=_root_.id rfl
@[simp] theorem aFG (x:Act):(ji x).c 2=.int x.to:=_root_.id rfl
@[simp] theorem aFH (x:Act):(ji x).c 3=.int x.part:=_root_.id rfl
@[simp] theorem aFI (x:Act):(ji x).c 4=.int x.at_:=_root_.id rfl
@[simp] theorem aFJ (x:Act):(ji x).c 5=.int x.sum:=_root_.id rfl
@[simp] theorem aFK (x:Act):(ji x).c 6=.int x.day:=_root_.id rfl
@[simp] theorem aFL (x:Act):(ji x).c 7=.int x.city:=_root_.id rfl
@[simp] theorem aFM (x:Act):(ji x).c 8=.int x.form:=_root_.id rfl
def acts (l:List Act):D:=.list (l.map ji)
@[simp] theorem aHJ (l:List Act):(acts l).l=l.map ji:=_root_.id rfl
@[simp] theorem aHI (l:List Act):(acts l).cells=[acts l]:=_root_.id rfl
abbrev WX:Ty:=.agg [.int .i64,.int .i64,.int .i64,.int .i64,.int .i64,.int .i64,.int .i64,.int .i64,.int .i64]
def Act.OK (x:Act):Prop:=bh x.kind∧bh x.who∧bh x.to∧bh x.part∧bh x.at_∧bh x.sum∧bh x.day∧bh x.city∧bh x.form
theorem ajG {d:D}(h:DTy WX d):∃x:Act,d=ji x∧x.OK:=by
 obtain⟨ds,rfl,hs⟩:=h.agg_inv;obtain⟨d0,ds,rfl,h0,hs⟩:=hs.cons_inv;obtain⟨d1,ds,rfl,h1,hs⟩:=hs.cons_inv;obtain⟨d2,ds,rfl,h2,hs⟩:=hs.cons_inv;obtain⟨d3,ds,rfl,h3,hs⟩:=hs.cons_inv;obtain⟨d4,ds,rfl,h4,hs⟩:=hs.cons_inv;obtain⟨d5,ds,rfl,h5,hs⟩:=hs.cons_inv;obtain⟨d6,ds,rfl,h6,hs⟩:=hs.cons_inv;obtain⟨d7,ds,rfl,h7,hs⟩:=hs.cons_inv;obtain⟨d8,ds,rfl,h8,hs⟩:=hs.cons_inv;obtain rfl:=hs.nil_inv;obtain⟨n0,rfl,b0⟩:=h0.i64_inv;obtain⟨n1,rfl,b1⟩:=h1.i64_inv;obtain⟨n2,rfl,b2⟩:=h2.i64_inv;obtain⟨n3,rfl,b3⟩:=h3.i64_inv;obtain⟨n4,rfl,b4⟩:=h4.i64_inv;obtain⟨n5,rfl,b5⟩:=h5.i64_inv;obtain⟨n6,rfl,b6⟩:=h6.i64_inv;obtain⟨n7,rfl,b7⟩:=h7.i64_inv;obtain⟨n8,rfl,b8⟩:=h8.i64_inv;exact⟨⟨n0,n1,n2,n3,n4,n5,n6,n7,n8⟩,rfl,⟨b0,b1,b2,b3,b4,b5,b6,b7,b8⟩⟩
theorem ajH {d:D}(h:DTy (.slice WX) d):∃l:List Act,d=acts l∧l.length≤maxLen∧∀y,y∈l→Act.OK y:=by
 obtain⟨xs,rfl,hm,hx⟩:=h.slice_inv;obtain⟨l,rfl,hl⟩:=jT (enc:=ji) (P:=Act.OK) fun x hh=>ajG (hx x hh);exact⟨l,rfl,by simpa using hm,hl⟩
structure Fact where
 kind:Int
 at_:Int
 n:Int
 deriving DecidableEq,Inhabited
def ql (x:Fact):D:=.agg [.int x.kind,.int x.at_,.int x.n]
@[simp] theorem aGw (x:Fact):(ql x).cells=[.int x.kind,.int x.at_,.int x.n]:=_root_.id rfl
@[simp] theorem aKE (x:Fact):D.agg [.int x.kind,.int x.at_,.int x.n]=ql x:=_root_.id rfl
@[simp] theorem aGt (x:Fact):(ql x).c 0=.int x.kind:=_root_.id rfl
@[simp] theorem aGu (x:Fact):(ql x).c 1=.int x.at_:=_root_.id rfl
@[simp] theorem aGv (x:Fact):(ql x).c 2=.int x.n:=_root_.id rfl
def facts (l:List Fact):D:=.list (l.map ql)
@[simp] theorem aJs (l:List Fact):(facts l).l=l.map ql:=_root_.id rfl
@[simp] theorem aJr (l:List Fact):(facts l).cells=[facts l]:=_root_.id rfl
abbrev W2:Ty:=.agg [.int .i64,.int .i64,.int .i64]
def Fact.OK (x:Fact):Prop:=bh x.kind∧bh x.at_∧bh x.n
theorem aqe {d:D}(h:DTy W2 d):∃x:Fact,d=ql x∧x.OK:=by
 obtain⟨ds,rfl,hs⟩:=h.agg_inv;obtain⟨d0,ds,rfl,h0,hs⟩:=hs.cons_inv;obtain⟨d1,ds,rfl,h1,hs⟩:=hs.cons_inv;obtain⟨d2,ds,rfl,h2,hs⟩:=hs.cons_inv;obtain rfl:=hs.nil_inv;obtain⟨n0,rfl,b0⟩:=h0.i64_inv;obtain⟨n1,rfl,b1⟩:=h1.i64_inv;obtain⟨n2,rfl,b2⟩:=h2.i64_inv;exact⟨⟨n0,n1,n2⟩,rfl,⟨b0,b1,b2⟩⟩
theorem Z1 {d:D}(h:DTy (.slice W2) d):∃l:List Fact,d=facts l∧l.length≤maxLen∧∀y,y∈l→Fact.OK y:=by
 obtain⟨xs,rfl,hm,hx⟩:=h.slice_inv;obtain⟨l,rfl,hl⟩:=jT (enc:=ql) (P:=Fact.OK) fun x hh=>aqe (hx x hh);exact⟨l,rfl,by simpa using hm,hl⟩
structure File where
 bill:Bill
 signs:List Sign
 alters:List Alter
 acts:List Act
 facts:List Fact
 deriving Inhabited
def cI (x:File):D:=.agg [.int x.bill.drawer,.int x.bill.drawee,.int x.bill.payee,.int x.bill.sum,.int x.bill.currency,.int x.bill.tenor.kind,.int x.bill.tenor.n,.int x.bill.tenor.unit,.int x.bill.day,.int x.bill.city,.int x.bill.pay,.int x.bill.need,.int x.bill.rate,.int x.bill.flags,.int x.bill.parts,signs x.signs,alters x.alters,acts x.acts,facts x.facts]
@[simp] theorem aGE (x:File):(cI x).cells=[.int x.bill.drawer,.int x.bill.drawee,.int x.bill.payee,.int x.bill.sum,.int x.bill.currency,.int x.bill.tenor.kind,.int x.bill.tenor.n,.int x.bill.tenor.unit,.int x.bill.day,.int x.bill.city,.int x.bill.pay,.int x.bill.need,.int x.bill.rate,.int x.bill.flags,.int x.bill.parts,signs x.signs,alters x.alters,acts x.acts,facts x.facts]:=_root_.id rfl
@[simp] theorem aKF (x:File):D.agg [.int x.bill.drawer,.int x.bill.drawee,.int x.bill.payee,.int x.bill.sum,.int x.bill.currency,.int x.bill.tenor.kind,.int x.bill.tenor.n,.int x.bill.tenor.unit,.int x.bill.day,.int x.bill.city,.int x.bill.pay,.int x.bill.need,.int x.bill.rate,.int x.bill.flags,.int x.bill.parts,signs x.signs,alters x.alters,acts x.acts,facts x.facts]=cI x:=_root_.id rfl
@[simp] theorem aHR (x:File):j0 19 (cI x)=cI x:=_root_.id rfl
@[simp] theorem aK8 (x:File)(a0 a1 a2 a3 a4 a5 a6 a7 a8 a9 lu lx ly lz lC nj nk nl oH:D):D.agg (dU [a0,a1,a2,a3,a4,a5,a6,a7,a8,a9,lu,lx,ly,lz,lC,nj,nk,nl,oH] 0 [.int x.bill.drawer,.int x.bill.drawee,.int x.bill.payee,.int x.bill.sum,.int x.bill.currency,.int x.bill.tenor.kind,.int x.bill.tenor.n,.int x.bill.tenor.unit,.int x.bill.day,.int x.bill.city,.int x.bill.pay,.int x.bill.need,.int x.bill.rate,.int x.bill.flags,.int x.bill.parts,signs x.signs,alters x.alters,acts x.acts,facts x.facts])=cI x:=_root_.id rfl
@[simp] theorem aGC (x:File):(cI x).c 5=.int x.bill.tenor.kind:=_root_.id rfl
@[simp] theorem aGD (x:File):(cI x).c 8=.int x.bill.day:=_root_.id rfl
@[simp] theorem aGx (x:File):(cI x).c 14=.int x.bill.parts:=_root_.id rfl
@[simp] theorem aGy (x:File):(cI x).c 15=signs x.signs:=_root_.id rfl
@[simp] theorem aGz (x:File):(cI x).c 16=alters x.alters:=_root_.id rfl
@[simp] theorem aGA (x:File):(cI x).c 17=acts x.acts:=_root_.id rfl
@[simp] theorem aGB (x:File):(cI x).c 18=facts x.facts:=_root_.id rfl
def File.OK (x:File):Prop:=Bill.OK x.bill∧(x.signs.length≤maxLen∧∀y,y∈x.signs→Sign.OK y)∧(x.alters.length≤maxLen∧∀y,y∈x.alters→Alter.OK y)∧(x.acts.length≤maxLen∧∀y,y∈x.acts→Act.OK y)∧(x.facts.length≤maxLen∧∀y,y∈x.facts→Fact.OK y)
structure Case where
 file:File
 sign:Int
 holder:Int
 defence:Int
 due:Int
 day:Int
 deriving Inhabited
def dO (x:Case):D:=.agg [.int x.file.bill.drawer,.int x.file.bill.drawee,.int x.file.bill.payee,.int x.file.bill.sum,.int x.file.bill.currency,.int x.file.bill.tenor.kind,.int x.file.bill.tenor.n,.int x.file.bill.tenor.unit,.int x.file.bill.day,.int x.file.bill.city,.int x.file.bill.pay,.int x.file.bill.need,.int x.file.bill.rate,.int x.file.bill.flags,.int x.file.bill.parts,signs x.file.signs,alters x.file.alters,acts x.file.acts,facts x.file.facts,.int x.sign,.int x.holder,.int x.defence,.int x.due,.int x.day]
@[simp] theorem aGf (x:Case):(dO x).cells=[.int x.file.bill.drawer,.int x.file.bill.drawee,.int x.file.bill.payee,.int x.file.bill.sum,.int x.file.bill.currency,.int x.file.bill.tenor.kind,.int x.file.bill.tenor.n,.int x.file.bill.tenor.unit,.int x.file.bill.day,.int x.file.bill.city,.int x.file.bill.pay,.int x.file.bill.need,.int x.file.bill.rate,.int x.file.bill.flags,.int x.file.bill.parts,signs x.file.signs,alters x.file.alters,acts x.file.acts,facts x.file.facts,.int x.sign,.int x.holder,.int x.defence,.int x.due,.int x.day]:=_root_.id rfl
@[simp] theorem aKA (x:Case):D.agg [.int x.file.bill.drawer,.int x.file.bill.drawee,.int x.file.bill.payee,.int x.file.bill.sum,.int x.file.bill.currency,.int x.file.bill.tenor.kind,.int x.file.bill.tenor.n,.int x.file.bill.tenor.unit,.int x.file.bill.day,.int x.file.bill.city,.int x.file.bill.pay,.int x.file.bill.need,.int x.file.bill.rate,.int x.file.bill.flags,.int x.file.bill.parts,signs x.file.signs,alters x.file.alters,acts x.file.acts,facts x.file.facts,.int x.sign,.int x.holder,.int x.defence,.int x.due,.int x.day]=dO x:=_root_.id rfl
@[simp] theorem ajO (x:Case):j0 24 (dO x)=dO x:=_root_.id rfl
@[simp] theorem aAv (x:Case)(a0 a1 a2 a3 a4 a5 a6 a7 a8 a9 lu lx ly lz lC nj nk nl oH Nj Nk Nl Nm Nn:D):D.agg (dU [a0,a1,a2,a3,a4,a5,a6,a7,a8,a9,lu,lx,ly,lz,lC,nj,nk,nl,oH,Nj,Nk,Nl,Nm,Nn] 0 [.int x.file.bill.drawer,.int x.file.bill.drawee,.int x.file.bill.payee,.int x.file.bill.sum,.int x.file.bill.currency,.int x.file.bill.tenor.kind,.int x.file.bill.tenor.n,.int x.file.bill.tenor.unit,.int x.file.bill.day,.int x.file.bill.city,.int x.file.bill.pay,.int x.file.bill.need,.int x.file.bill.rate,.int x.file.bill.flags,.int x.file.bill.parts,signs x.file.signs,alters x.file.alters,acts x.file.acts,facts x.file.facts,.int x.sign,.int x.holder,.int x.defence,.int x.due,.int x.day])=dO x:=_root_.id rfl
@[simp] theorem aGe (x:Case):(dO x).c 9=.int x.file.bill.city:=_root_.id rfl
@[simp] theorem aF7 (x:Case):(dO x).c 10=.int x.file.bill.pay:=_root_.id rfl
@[simp] theorem aF8 (x:Case):(dO x).c 15=signs x.file.signs:=_root_.id rfl
@[simp] theorem aF9 (x:Case):(dO x).c 19=.int x.sign:=_root_.id rfl
@[simp] theorem aGa (x:Case):(dO x).c 20=.int x.holder:=_root_.id rfl
@[simp] theorem aGb (x:Case):(dO x).c 21=.int x.defence:=_root_.id rfl
@[simp] theorem aGc (x:Case):(dO x).c 22=.int x.due:=_root_.id rfl
@[simp] theorem aGd (x:Case):(dO x).c 23=.int x.day:=_root_.id rfl
def cases(l:List Case):D:=.list (l.map dO)
abbrev aEQ:Ty:=.agg [.int .i64,.int .i64,.int .i64,.int .i64,.int .i64,.int .i64,.int .i64,.int .i64,.int .i64,.int .i64,.int .i64,.int .i64,.int .i64,.int .i64,.int .i64,.slice W9,.slice WY,.slice WX,.slice W2,.int .i64,.int .i64,.int .i64,.int .i64,.int .i64]
def Case.OK (x:Case):Prop:=File.OK x.file∧bh x.sign∧bh x.holder∧bh x.defence∧bh x.due∧bh x.day
theorem amA {d:D}(h:DTy aEQ d):∃x:Case,d=dO x∧x.OK:=by
 obtain⟨ds,rfl,hs⟩:=h.agg_inv;obtain⟨d0,ds,rfl,h0,hs⟩:=hs.cons_inv;obtain⟨d1,ds,rfl,h1,hs⟩:=hs.cons_inv;obtain⟨d2,ds,rfl,h2,hs⟩:=hs.cons_inv;obtain⟨d3,ds,rfl,h3,hs⟩:=hs.cons_inv;obtain⟨d4,ds,rfl,h4,hs⟩:=hs.cons_inv;obtain⟨d5,ds,rfl,h5,hs⟩:=hs.cons_inv;obtain⟨d6,ds,rfl,h6,hs⟩:=hs.cons_inv;obtain⟨d7,ds,rfl,h7,hs⟩:=hs.cons_inv;obtain⟨d8,ds,rfl,h8,hs⟩:=hs.cons_inv;obtain⟨d9,ds,rfl,h9,hs⟩:=hs.cons_inv;obtain⟨d10,ds,rfl,nv,hs⟩:=hs.cons_inv;obtain⟨d11,ds,rfl,rE,hs⟩:=hs.cons_inv;obtain⟨d12,ds,rfl,O4,hs⟩:=hs.cons_inv;obtain⟨d13,ds,rfl,h13,hs⟩:=hs.cons_inv;obtain⟨d14,ds,rfl,h14,hs⟩:=hs.cons_inv;obtain⟨d15,ds,rfl,Hp,hs⟩:=hs.cons_inv;obtain⟨d16,ds,rfl,Hq,hs⟩:=hs.cons_inv;obtain⟨d17,ds,rfl,Hr,hs⟩:=hs.cons_inv;obtain⟨d18,ds,rfl,Hs,hs⟩:=hs.cons_inv;obtain⟨d19,ds,rfl,Ht,hs⟩:=hs.cons_inv;obtain⟨d20,ds,rfl,h20,hs⟩:=hs.cons_inv;obtain⟨d21,ds,rfl,h21,hs⟩:=hs.cons_inv;obtain⟨d22,ds,rfl,h22,hs⟩:=hs.cons_inv;obtain⟨d23,ds,rfl,h23,hs⟩:=hs.cons_inv;obtain rfl:=hs.nil_inv;obtain⟨n0,rfl,b0⟩:=h0.i64_inv;obtain⟨n1,rfl,b1⟩:=h1.i64_inv;obtain⟨n2,rfl,b2⟩:=h2.i64_inv;obtain⟨n3,rfl,b3⟩:=h3.i64_inv;obtain⟨n4,rfl,b4⟩:=h4.i64_inv;obtain⟨n5,rfl,b5⟩:=h5.i64_inv;obtain⟨n6,rfl,b6⟩:=h6.i64_inv;obtain⟨n7,rfl,b7⟩:=h7.i64_inv;obtain⟨n8,rfl,b8⟩:=h8.i64_inv;obtain⟨n9,rfl,b9⟩:=h9.i64_inv;obtain⟨n10,rfl,Nu⟩:=nv.i64_inv;obtain⟨n11,rfl,Nv⟩:=rE.i64_inv;obtain⟨n12,rfl,Nw⟩:=O4.i64_inv;obtain⟨n13,rfl,Nx⟩:=h13.i64_inv;obtain⟨n14,rfl,Ny⟩:=h14.i64_inv;obtain⟨n15,rfl,Nz,c15⟩:=aCg Hp;obtain⟨n16,rfl,NA,c16⟩:=ajQ Hq;obtain⟨n17,rfl,NB,c17⟩:=ajH Hr;obtain⟨n18,rfl,FM,c18⟩:=Z1 Hs;obtain⟨n19,rfl,b19⟩:=Ht.i64_inv;obtain⟨n20,rfl,b20⟩:=h20.i64_inv;obtain⟨n21,rfl,b21⟩:=h21.i64_inv;obtain⟨n22,rfl,b22⟩:=h22.i64_inv;obtain⟨n23,rfl,b23⟩:=h23.i64_inv;exact⟨⟨⟨⟨n0,n1,n2,n3,n4,⟨n5,n6,n7⟩,n8,n9,n10,n11,n12,n13,n14⟩,n15,n16,n17,n18⟩,n19,n20,n21,n22,n23⟩,rfl,⟨⟨⟨b0,b1,b2,b3,b4,⟨b5,b6,b7⟩,b8,b9,Nu,Nv,Nw,Nx,Ny⟩,⟨Nz,c15⟩,⟨NA,c16⟩,⟨NB,c17⟩,⟨FM,c18⟩⟩,b19,b20,b21,b22,b23⟩⟩
structure Cell where
 known:Bool
 n:Int
 deriving DecidableEq,Inhabited
def cH (x:Cell):D:=.agg [.bool x.known,.int x.n]
@[simp] theorem aGi (x:Cell):(cH x).cells=[.bool x.known,.int x.n]:=_root_.id rfl
@[simp] theorem aKB (x:Cell):D.agg [.bool x.known,.int x.n]=cH x:=_root_.id rfl
@[simp] theorem aGg (x:Cell):(cH x).c 0=.bool x.known:=_root_.id rfl
@[simp] theorem aGh (x:Cell):(cH x).c 1=.int x.n:=_root_.id rfl
def cells (l:List Cell):D:=.list (l.map cH)
@[simp] theorem aIf (l:List Cell):(cells l).l=l.map cH:=_root_.id rfl
@[simp] theorem aIe (l:List Cell):(cells l).cells=[cells l]:=_root_.id rfl
structure Said where
 cell:Cell
 order:Int
 path:List Int
 err:Int
 deriving Inhabited
def jH (x:Said):D:=.agg [.bool x.cell.known,.int x.cell.n,.int x.order,ints x.path,.int x.err]
@[simp] theorem aHg (x:Said):(jH x).cells=[.bool x.cell.known,.int x.cell.n,.int x.order,ints x.path,.int x.err]:=_root_.id rfl
@[simp] theorem aKN (x:Said):D.agg [.bool x.cell.known,.int x.cell.n,.int x.order,ints x.path,.int x.err]=jH x:=_root_.id rfl
@[simp] theorem aHU (x:Said):j0 5 (jH x)=jH x:=_root_.id rfl
@[simp] theorem aHb (x:Said):(jH x).c 0=.bool x.cell.known:=_root_.id rfl
@[simp] theorem aHc (x:Said):(jH x).c 1=.int x.cell.n:=_root_.id rfl
@[simp] theorem aHd (x:Said):(jH x).c 2=.int x.order:=_root_.id rfl
@[simp] theorem aHe (x:Said):(jH x).c 3=ints x.path:=_root_.id rfl
@[simp] theorem aHf (x:Said):(jH x).c 4=.int x.err:=_root_.id rfl
@[simp] theorem aLN (a0 x0:D):dU [a0] 0 [x0]=[x0]:=_root_.id rfl
@[simp] theorem aLO (a0 a1 x0 x1:D):dU [a0,a1] 0 [x0,x1]=[x0,x1]:=_root_.id rfl
@[simp] theorem aLP (a0 a1 a2 x0 x1 x2:D):dU [a0,a1,a2] 0 [x0,x1,x2]=[x0,x1,x2]:=_root_.id rfl
@[simp] theorem aLQ (a0 a1 a2 a3 x0 x1 x2 x3:D):dU [a0,a1,a2,a3] 0 [x0,x1,x2,x3]=[x0,x1,x2,x3]:=_root_.id rfl
@[simp] theorem aLR (a0 a1 a2 a3 a4 x0 x1 x2 x3 x4:D):dU [a0,a1,a2,a3,a4] 0 [x0,x1,x2,x3,x4]=[x0,x1,x2,x3,x4]:=_root_.id rfl
@[simp] theorem aLS (a0 a1 a2 a3 a4 a5 x0 x1 x2 x3 x4 x5:D):dU [a0,a1,a2,a3,a4,a5] 0 [x0,x1,x2,x3,x4,x5]=[x0,x1,x2,x3,x4,x5]:=_root_.id rfl
@[simp] theorem aLT (a0 a1 a2 a3 a4 a5 a6 a7 a8 x0 x1 x2 x3 x4 x5 x6 x7 x8:D):dU [a0,a1,a2,a3,a4,a5,a6,a7,a8] 0 [x0,x1,x2,x3,x4,x5,x6,x7,x8]=[x0,x1,x2,x3,x4,x5,x6,x7,x8]:=_root_.id rfl
end Rm
set_option maxRecDepth 100000
namespace Rm
open Go Go.Proofs Cx
abbrev I:Ty:=.int .i64
abbrev Y0:Ty:=.agg [.str,I,I,(.slice I),(.slice I),(.slice I)]
abbrev Y1:Ty:=.agg [I]
abbrev Y2:Ty:=.agg [.str,I,I]
abbrev Y3:Ty:=.agg [I,I,.bool]
abbrev Y4:Ty:=.agg [I,I,I,(.slice .trm)]
abbrev Y5:Ty:=.agg [.str,.bool,(.slice Y3),(.slice Y4)]
abbrev Y6:Ty:=.agg [I,I,I]
abbrev Y7:Ty:=.agg [I,I,I,I,I]
abbrev Y8:Ty:=.agg [(.slice .str),(.slice Y0),(.slice Y1),(.slice Y2),(.slice Y5),(.slice Y6),(.slice Y7),(.slice Y6)]
abbrev Y9:Ty:=.agg [I,I,I,I,I,I,I,I,I]
abbrev sJ:Ty:=.agg [I,I]
abbrev ls:Ty:=.agg [I,I,I,I,I,I,I,I,I,I,I,I,I,I,I,(.slice Y9),(.slice sJ),(.slice Y9),(.slice Y6),I,I,I,I,I]
abbrev fH:Ty:=.agg [I,I,I,I,I,I,I,I,I,I,I,I,I,I,I,(.slice Y9),(.slice sJ),(.slice Y9),(.slice Y6)]
abbrev uM:Ty:=.agg [.bool,I,I,(.slice I),I]
abbrev jf:Ty:=.agg [.bool,I]
abbrev qa:Ty:=.agg [I,I,(.slice .trm)]
abbrev FC:Ty:=.agg [I,I,I,I,I,I,I,I,I,I,I,I,I,I,I]
abbrev X0:Ty:=.agg [(.slice jf)]
abbrev Y18:Ty:=.agg [(.slice I),I]
def af:List (Nat×Sig):=[
 (9,⟨[Y8,I,I,ls,(.slice Y6)],.bool,.dat⟩),
 (26,⟨[],.bool,.dat⟩),
 (27,⟨[Y8,fH],.bool,.dat⟩),
 (28,⟨[Y8,I,I,ls],uM,.dat⟩),
 (29,⟨[Y8,I,ls],(.slice I),.dat⟩),
 (30,⟨[fH,I],fH,.dat⟩),
 (31,⟨[Y8,ls],(.slice jf),.dat⟩),
 (32,⟨[Y8,I],I,.dat⟩),
 (33,⟨[Y8,I,I,(.slice I)],(.tup [(.slice I),I]),.dat⟩),
 (34,⟨[(.slice I),(.slice I)],.bool,.dat⟩),
 (35,⟨[Y5,I,(.slice jf)],(.tup [jf,I]),.dat⟩),
 (41,⟨[Y8,I,fH,I],I,.dat⟩),
 (42,⟨[Y8,fH],I,.dat⟩),
 (46,⟨[uM],I,.dat⟩),
 (47,⟨[fH,(.slice Y6)],fH,.dat⟩),
 (48,⟨[uM],I,.dat⟩),
 (49,⟨[uM,uM],.bool,.dat⟩),
 (50,⟨[Y8,I,I,fH,I],uM,.dat⟩),
 (53,⟨[Y8,fH],.bool,.dat⟩),
 (54,⟨[Y8],I,.dat⟩),
 (58,⟨[Y8],.bool,.dat⟩),
 (62,⟨[Y8],I,.dat⟩),
 (79,⟨[],Y8,.dat⟩),
 (80,⟨[fH],ls,.dat⟩),
 (81,⟨[I],fH,.dat⟩),
 (82,⟨[Y8,I,I,ls],(.slice I),.dat⟩),
 (83,⟨[Y8,I,I,ls],(.tup [uM,(.slice jf)]),.dat⟩),
 (84,⟨[Y8,ls],(.tup [ls,(.slice jf)]),.dat⟩),
 (85,⟨[Y8,I,ls],(.nsl I),.dat⟩),
 (86,⟨[I,I],.bool,.dat⟩),
 (87,⟨[(.slice sJ),(.fn [sJ] .bool)],.bool,.dat⟩),
 (88,⟨[sJ,(.ref ls)],.bool,.dat⟩),
 (89,⟨[.bool],jf,.dat⟩),
 (90,⟨[fH,I,I],jf,.dat⟩),
 (91,⟨[I,I],.bool,.dat⟩),
 (92,⟨[Y8,I,I,(.slice I)],.bool,.dat⟩),
 (93,⟨[Y8,I,I,(.slice I)],(.tup [I,.bool]),.dat⟩),
 (94,⟨[(.slice I),I],.bool,.dat⟩),
 (95,⟨[Y5,I],(.tup [qa,I]),.dat⟩),
 (96,⟨[qa,(.slice jf)],jf,.dat⟩),
 (97,⟨[I],(.tup [I,.bool]),.dat⟩),
 (108,⟨[Y8,FC,I,I],(.tup [I,I]),.dat⟩),
 (109,⟨[fH],I,.dat⟩),
 (110,⟨[Y8,FC],I,.dat⟩),
 (111,⟨[Y8,fH,I],I,.dat⟩),
 (112,⟨[I,I,I],.bool,.dat⟩),
 (113,⟨[Y8,fH],I,.dat⟩),
 (114,⟨[fH],I,.dat⟩),
 (119,⟨[fH,Y6],fH,.dat⟩),
 (120,⟨[I],.bool,.dat⟩),
 (121,⟨[Y0,I],.bool,.dat⟩),
 (127,⟨[fH],.bool,.dat⟩),
 (128,⟨[Y5],.bool,.dat⟩),
 (129,⟨[Y8],(.tup [(.slice .str),(.slice .str),(.slice .str)]),.dat⟩),
 (130,⟨[(.slice .str),I,(.fn [I] .bool)],I,.dat⟩),
 (131,⟨[I],.bool,.dat⟩),
 (132,⟨[I,(.ref Y8)],.bool,.dat⟩),
 (133,⟨[Y8,Y0],.bool,.dat⟩),
 (134,⟨[I,(.ref Y8)],.bool,.dat⟩),
 (135,⟨[I,(.ref Y8)],.bool,.dat⟩),
 (136,⟨[Y5],.bool,.dat⟩),
 (137,⟨[Y8],I,.dat⟩),
 (138,⟨[Y8],I,.dat⟩),
 (139,⟨[(.slice I)],(.tup []),.dat⟩),
 (140,⟨[(.slice I)],(.slice I),.dat⟩),
 (145,⟨[Y8],I,.dat⟩),
 (146,⟨[Y8],I,.dat⟩),
 (147,⟨[Y8],I,.dat⟩),
 (148,⟨[Y8],I,.dat⟩),
 (149,⟨[Y8],I,.dat⟩),
 (163,⟨[Y5,I,(.slice jf)],(.slice I),.dat⟩),
 (164,⟨[(.slice sJ),(.fn [sJ] .bool)],I,.dat⟩),
 (165,⟨[(.slice I),(.fn [I] .bool)],.bool,.dat⟩),
 (166,⟨[I,(.ref I)],.bool,.dat⟩),
 (167,⟨[(.slice I),I],I,.dat⟩),
 (168,⟨[(.slice Y4),(.fn [Y4] .bool)],I,.dat⟩),
 (169,⟨[Y4,(.ref I)],.bool,.dat⟩),
 (170,⟨[qa],(.tup [I,I]),.dat⟩),
 (171,⟨[X0,qa],(.tup [jf,(.slice I)]),.dat⟩),
 (177,⟨[Y8,I],.bool,.dat⟩),
 (178,⟨[I],.bool,.dat⟩),
 (179,⟨[Y6],.bool,.dat⟩),
 (180,⟨[Y8,FC,I],(.tup [I,I]),.dat⟩),
 (181,⟨[Y8,I,I],(.tup [I,I]),.dat⟩),
 (182,⟨[(.slice I)],I,.dat⟩),
 (183,⟨[I,I],.bool,.dat⟩),
 (184,⟨[FC],.bool,.dat⟩),
 (185,⟨[Y8,I,I],(.tup [I,I]),.dat⟩),
 (186,⟨[Y8,fH,I],.bool,.dat⟩),
 (187,⟨[Y8,fH,Y9],.bool,.dat⟩),
 (188,⟨[(.slice I)],I,.dat⟩),
 (189,⟨[I,I],I,.dat⟩),
 (200,⟨[fH,I,I],jf,.dat⟩),
 (201,⟨[I],(.tup [I,I,I]),.dat⟩),
 (203,⟨[qa],.bool,.dat⟩),
 (204,⟨[(.slice .str),I],I,.dat⟩),
 (205,⟨[(.slice I),I,I],.bool,.dat⟩),
 (206,⟨[(.slice I),I,I,I],(.tup []),.dat⟩),
 (207,⟨[(.int .u64)],I,.dat⟩),
 (208,⟨[(.slice .str),I],I,.dat⟩),
 (209,⟨[Y8,Y0],.bool,.dat⟩),
 (210,⟨[I,I,I],.bool,.dat⟩),
 (211,⟨[Y5],.bool,.dat⟩),
 (215,⟨[qa,(.slice jf)],(.slice I),.dat⟩),
 (216,⟨[(.slice I),(.fn [I] .bool)],I,.dat⟩),
 (217,⟨[qa,I],I,.dat⟩),
 (218,⟨[qa],(.tup [I,I]),.dat⟩),
 (219,⟨[X0,I],jf,.dat⟩),
 (220,⟨[I,(.slice jf)],jf,.dat⟩),
 (221,⟨[(.slice (.slice I))],(.slice I),.dat⟩),
 (223,⟨[I,Y6],(.tup [I,I]),.dat⟩),
 (224,⟨[Y8,I,I],I,.dat⟩),
 (225,⟨[Y0,I],(.tup [I,I]),.dat⟩),
 (226,⟨[fH,I,(.slice I)],.bool,.dat⟩),
 (227,⟨[fH,I,I],.bool,.dat⟩),
 (228,⟨[I],.bool,.dat⟩),
 (243,⟨[qa,I,I],I,.dat⟩),
 (244,⟨[.str],.bool,.dat⟩),
 (245,⟨[(.slice .str),.str],.bool,.dat⟩),
 (246,⟨[(.slice I),I,I],(.tup []),.dat⟩),
 (247,⟨[(.slice I),I,I],(.tup []),.dat⟩),
 (248,⟨[(.slice I),I,I],(.tup []),.dat⟩),
 (249,⟨[(.slice I),I,I],(.tup [I,I]),.dat⟩),
 (250,⟨[(.slice I),I,I],(.tup []),.dat⟩),
 (251,⟨[(.slice I),I,I],.bool,.dat⟩),
 (252,⟨[I,I],.bool,.dat⟩),
 (253,⟨[(.slice I),I,I,I],I,.dat⟩),
 (254,⟨[(.slice I),I,I,I],(.tup [I,.bool]),.dat⟩),
 (255,⟨[(.int .u32)],I,.dat⟩),
 (256,⟨[(.int .u64)],I,.dat⟩),
 (257,⟨[.str],.bool,.dat⟩),
 (258,⟨[(.slice .str),I,.str],.bool,.dat⟩),
 (259,⟨[(.slice I),I,I],.bool,.dat⟩),
 (260,⟨[qa],(.tup [I,I]),.dat⟩),
 (261,⟨[I],Y18,.dat⟩),
 (262,⟨[I],(.tup [I,.bool]),.dat⟩),
 (263,⟨[.bool],jf,.dat⟩),
 (264,⟨[I],I,.dat⟩),
 (265,⟨[I,I,I],I,.dat⟩),
 (266,⟨[.nils .bool,I],(.slice I),(.row 3 I)⟩),
 (267,⟨[I,I],(.tup [I,I]),.dat⟩),
 (268,⟨[Y0,I,I],(.fn [(.fn [I] .bool)] (.tup [])),.dat⟩),
 (279,⟨[(.slice .str),.str],I,.dat⟩),
 (285,⟨[(.int .u8)],.bool,.dat⟩),
 (286,⟨[I,I],I,.dat⟩),
 (287,⟨[I,I,I],(.tup [I,I]),.dat⟩),
 (288,⟨[I,I],I,.dat⟩),
 (298,⟨[(.int .u64),(.int .u64)],(.tup [(.int .u64),(.int .u64)]),.dat⟩),
 (299,⟨[I,I,I],I,.dat⟩)]
def Ok:List (Nat×CSig):=[
 (88,⟨[(.ref ls)],[sJ],.bool⟩),
 (131,⟨[],[I],.bool⟩),
 (132,⟨[(.ref Y8)],[I],.bool⟩),
 (134,⟨[(.ref Y8)],[I],.bool⟩),
 (135,⟨[(.ref Y8)],[I],.bool⟩),
 (166,⟨[(.ref I)],[I],.bool⟩),
 (169,⟨[(.ref I)],[Y4],.bool⟩),
 (289,⟨[(.ref I),(.ref I),(.ref Y0)],[(.fn [I] .bool)],(.tup [])⟩)]
abbrev adl:Nat:=9
abbrev adr:Nat:=26
abbrev ado:Nat:=27
abbrev acS:Nat:=28
abbrev acX:Nat:=29
abbrev ad7:Nat:=30
abbrev aea:Nat:=31
abbrev adW:Nat:=32
abbrev adi:Nat:=33
abbrev adQ:Nat:=34
abbrev ads:Nat:=35
abbrev acU:Nat:=41
abbrev RD:Nat:=42
abbrev acY:Nat:=46
abbrev adn:Nat:=47
abbrev acW:Nat:=48
abbrev adU:Nat:=49
abbrev acT:Nat:=50
abbrev adT:Nat:=53
abbrev adV:Nat:=54
abbrev adC:Nat:=58
abbrev adB:Nat:=62
abbrev adq:Nat:=79
abbrev adm:Nat:=80
abbrev adp:Nat:=81
abbrev acV:Nat:=82
abbrev acZ:Nat:=83
abbrev ac0:Nat:=84
abbrev azr:Nat:=85
abbrev aed:Nat:=86
abbrev aef:Nat:=87
abbrev aeb:Nat:=88
abbrev aec:Nat:=89
abbrev ad8:Nat:=90
abbrev adZ:Nat:=91
abbrev adk:Nat:=92
abbrev adj:Nat:=93
abbrev RM:Nat:=94
abbrev RC:Nat:=95
abbrev aet:Nat:=96
abbrev RB:Nat:=97
abbrev IJ:Nat:=108
abbrev ad9:Nat:=109
abbrev aey:Nat:=110
abbrev ady:Nat:=111
abbrev Dv:Nat:=112
abbrev adu:Nat:=113
abbrev adw:Nat:=114
abbrev adO:Nat:=119
abbrev ade:Nat:=120
abbrev adb:Nat:=121
abbrev adN:Nat:=127
abbrev adS:Nat:=128
abbrev ad2:Nat:=129
abbrev adY:Nat:=130
abbrev RG:Nat:=131
abbrev RH:Nat:=132
abbrev adX:Nat:=133
abbrev RI:Nat:=134
abbrev RJ:Nat:=135
abbrev ad3:Nat:=136
abbrev ad6:Nat:=137
abbrev ad4:Nat:=138
abbrev aem:Nat:=139
abbrev aee:Nat:=140
abbrev adH:Nat:=145
abbrev adI:Nat:=146
abbrev adJ:Nat:=147
abbrev adL:Nat:=148
abbrev adK:Nat:=149
abbrev RA:Nat:=163
abbrev aei:Nat:=164
abbrev aeg:Nat:=165
abbrev Rz:Nat:=166
abbrev RO:Nat:=167
abbrev RN:Nat:=168
abbrev II:Nat:=169
abbrev RR:Nat:=170
abbrev IL:Nat:=171
abbrev aer:Nat:=177
abbrev RP:Nat:=178
abbrev aep:Nat:=179
abbrev IK:Nat:=180
abbrev RQ:Nat:=181
abbrev ael:Nat:=182
abbrev aez:Nat:=183
abbrev aeA:Nat:=184
abbrev RK:Nat:=185
abbrev adx:Nat:=186
abbrev adt:Nat:=187
abbrev adg:Nat:=188
abbrev adf:Nat:=189
abbrev adM:Nat:=200
abbrev ac7:Nat:=201
abbrev adP:Nat:=203
abbrev ad1:Nat:=204
abbrev ad5:Nat:=205
abbrev aeo:Nat:=206
abbrev ac1:Nat:=207
abbrev Dw:Nat:=208
abbrev RE:Nat:=209
abbrev adG:Nat:=210
abbrev RF:Nat:=211
abbrev aeu:Nat:=215
abbrev aej:Nat:=216
abbrev RX:Nat:=217
abbrev RT:Nat:=218
abbrev RW:Nat:=219
abbrev RU:Nat:=220
abbrev RL:Nat:=221
abbrev aeq:Nat:=223
abbrev aes:Nat:=224
abbrev ac6:Nat:=225
abbrev adv:Nat:=226
abbrev adz:Nat:=227
abbrev adh:Nat:=228
abbrev adR:Nat:=243
abbrev ad0:Nat:=244
abbrev aeh:Nat:=245
abbrev aen:Nat:=246
abbrev ac2:Nat:=256
abbrev adE:Nat:=257
abbrev adA:Nat:=258
abbrev adF:Nat:=259
abbrev RV:Nat:=260
abbrev RY:Nat:=261
abbrev RS:Nat:=262
abbrev RZ:Nat:=263
abbrev aew:Nat:=264
abbrev aev:Nat:=265
abbrev ac4:Nat:=267
abbrev ac8:Nat:=268
abbrev aek:Nat:=279
abbrev adD:Nat:=285
abbrev aex:Nat:=286
abbrev ac5:Nat:=287
abbrev ada:Nat:=288
abbrev ac9:Nat:=289
abbrev ac3:Nat:=298
abbrev Ry:Nat:=299
noncomputable def ctx:Ctx:={P:=Tryz.prog,cap:=ab Ok,sig:=ab af,azb:=fun _=>none,glob:=US 0 [6,7,10,12,13,14,15,16,20,21]}
abbrev fO:PE:=.con (.v (.string ⟨#[0,1,2,2,3,3,3,3,4,4,4,4,4,4,4,4,5,5,5,5,5,5,5,5,5,5,5,5,5,5,5,5,6,6,6,6,6,6,6,6,6,6,6,6,6,6,6,6,6,6,6,6,6,6,6,6,6,6,6,6,6,6,6,6,7,7,7,7,7,7,7,7,7,7,7,7,7,7,7,7,7,7,7,7,7,7,7,7,7,7,7,7,7,7,7,7,7,7,7,7,7,7,7,7,7,7,7,7,7,7,7,7,7,7,7,7,7,7,7,7,7,7,7,7,7,7,7,7,8,8,8,8,8,8,8,8,8,8,8,8,8,8,8,8,8,8,8,8,8,8,8,8,8,8,8,8,8,8,8,8,8,8,8,8,8,8,8,8,8,8,8,8,8,8,8,8,8,8,8,8,8,8,8,8,8,8,8,8,8,8,8,8,8,8,8,8,8,8,8,8,8,8,8,8,8,8,8,8,8,8,8,8,8,8,8,8,8,8,8,8,8,8,8,8,8,8,8,8,8,8,8,8,8,8,8,8,8,8,8,8,8,8,8,8,8,8,8,8,8,8,8,8,8,8,8,8]⟩))
abbrev DL:PE:=.setc (.con (.agg [(.list []),(.list []),(.list []),(.list []),(.list []),(.list []),(.list []),(.list [])])) 0 (.mk [(.lst [(.con (.v (.string ⟨#[102,114,97,110,99]⟩)))]),(.lst [(.mk [(.con (.v (.string ⟨#[76,121,111,110]⟩))),(pi 0),(pi 0),pL,pL,pL]),(.mk [(.con (.v (.string ⟨#[76,111,110,100,111,110]⟩))),(pi 1),(pi 0),pL,pL,pL])]),(.lst [(.mk [(pi 0)])]),(.lst [(.mk [(.con (.v (.string ⟨#[97]⟩))),(pi 0),(pi 0)]),(.mk [(.con (.v (.string ⟨#[98]⟩))),(pi 1),(pi 0)])]),(.lst [(.mk [(pc (.setc (.con (.agg [(.v (.string ⟨#[]⟩)),(.bool false),(.list []),(.list [])])) 0 (.mk [(.con (.v (.string ⟨#[103,101,110,101,118,97]⟩))),pF,pL,(.lst [(.mk [(pi 2),(.mk [(pc (.setc (.con (.agg [(.int 0),(.int 0),(.list [])])) 0 (.mk [(pi 2),(pi 15),pL])) 0),(pc (.setc (.con (.agg [(.int 0),(.int 0),(.list [])])) 0 (.mk [(pi 2),(pi 15),pL])) 1),pL])]),(.mk [(pi 6),(.mk [(pi 0),(pi 0),pL])])])])) 0),(pc (.setc (.con (.agg [(.v (.string ⟨#[]⟩)),(.bool false),(.list []),(.list [])])) 0 (.mk [(.con (.v (.string ⟨#[103,101,110,101,118,97]⟩))),pF,pL,(.lst [(.mk [(pi 2),(.mk [(pc (.setc (.con (.agg [(.int 0),(.int 0),(.list [])])) 0 (.mk [(pi 2),(pi 15),pL])) 0),(pc (.setc (.con (.agg [(.int 0),(.int 0),(.list [])])) 0 (.mk [(pi 2),(pi 15),pL])) 1),pL])]),(.mk [(pi 6),(.mk [(pi 0),(pi 0),pL])])])])) 1),pL,(pc (.setc (.con (.agg [(.v (.string ⟨#[]⟩)),(.bool false),(.list []),(.list [])])) 0 (.mk [(.con (.v (.string ⟨#[103,101,110,101,118,97]⟩))),pF,pL,(.lst [(.mk [(pi 2),(.mk [(pc (.setc (.con (.agg [(.int 0),(.int 0),(.list [])])) 0 (.mk [(pi 2),(pi 15),pL])) 0),(pc (.setc (.con (.agg [(.int 0),(.int 0),(.list [])])) 0 (.mk [(pi 2),(pi 15),pL])) 1),pL])]),(.mk [(pi 6),(.mk [(pi 0),(pi 0),pL])])])])) 3)]),(au 4 (.setc (.con (.agg [(.v (.string ⟨#[]⟩)),(.bool false),(.list []),(.list [])])) 0 (.mk [(.con (.v (.string ⟨#[108,111,110,100,111,110]⟩))),pF,(.lst [(.mk [(pi 2),(pi 1),pF])]),(.lst [(.mk [(pi 2),(.mk [(pc (.setc (.con (.agg [(.int 0),(.int 0),(.list [])])) 0 (.mk [(pi 4),(pi 0),(.lst [(.mk [(pc (.setc (.con (.agg [(.int 0),(.int 0),(.list [])])) 0 (.mk [(pi 2),(pi 15),pL])) 0),(pc (.setc (.con (.agg [(.int 0),(.int 0),(.list [])])) 0 (.mk [(pi 2),(pi 15),pL])) 1),pL]),(.mk [(pi 2),(pi 17),pL])])])) 0),(pc (.setc (.con (.agg [(.int 0),(.int 0),(.list [])])) 0 (.mk [(pi 4),(pi 0),(.lst [(.mk [(pc (.setc (.con (.agg [(.int 0),(.int 0),(.list [])])) 0 (.mk [(pi 2),(pi 15),pL])) 0),(pc (.setc (.con (.agg [(.int 0),(.int 0),(.list [])])) 0 (.mk [(pi 2),(pi 15),pL])) 1),pL]),(.mk [(pi 2),(pi 17),pL])])])) 1),(pc (.setc (.con (.agg [(.int 0),(.int 0),(.list [])])) 0 (.mk [(pi 4),(pi 0),(.lst [(.mk [(pc (.setc (.con (.agg [(.int 0),(.int 0),(.list [])])) 0 (.mk [(pi 2),(pi 15),pL])) 0),(pc (.setc (.con (.agg [(.int 0),(.int 0),(.list [])])) 0 (.mk [(pi 2),(pi 15),pL])) 1),pL]),(.mk [(pi 2),(pi 17),pL])])])) 2)])]),(.mk [(pi 6),(.mk [(pi 0),(pi 3),pL])])])])))]),pL,pL,pL])
abbrev wj:PE:=.ai .quo .i64 (bD (aO (bD (.ai .rem .i64 (aO r0 (pi 730425)) (pi 146097)) (.ai .quo .i64 (.ai .rem .i64 (aO r0 (pi 730425)) (pi 146097)) (pi 1460))) (.ai .quo .i64 (.ai .rem .i64 (aO r0 (pi 730425)) (pi 146097)) (pi 36524))) (.ai .quo .i64 (.ai .rem .i64 (aO r0 (pi 730425)) (pi 146097)) (pi 146096))) (pi 365)
abbrev jW:PE:=.setc (.con (.agg [(.int 0),(.int 0),(.int 0),(.int 0),(.int 0),(.int 0),(.int 0),(.int 0),(.int 0),(.int 0),(.int 0),(.int 0),(.int 0),(.int 0),(.int 0),(.list []),(.list []),(.list []),(.list [])])) 0 (.mk [(au 15 (.setc Fo 0 (.mk [(pi 0),(pi 1),(pi 0),(pi 5),(pi 0),(.mk [(pi 3),(pi 10),(pi 0)]),(pi 2),r0,(pi 1),(pi (-1)),(pi 0),(pi 1),(pi 1)]))),(.lst [(au 9 (.setc z9 0 (.mk [(pi 0),(pi 0),(pi 0),(pi (-1)),(pi (-1)),(pi 0),(pi 2),r0,(pi 0)])))]),pL,pL,(.lst [(.mk [(pi 0),(pi 0),(pi 1)])])])
abbrev fg:PE:=.con (.agg [(.bool false),(.int 0)])
abbrev LH:PE:=.ai .quo .i64 (aO (.ai .mul .i64 (pi 5) (bD (.ai .rem .i64 (aO r0 (pi 730425)) (pi 146097)) (bD (aO (.ai .mul .i64 (pi 365) wj) (.ai .quo .i64 wj (pi 4))) (.ai .quo .i64 wj (pi 100))))) (pi 2)) (pi 153)
abbrev qO:PE:=.deref (.con (.ref (.agg [(.int 6),(.int 7),(.int 10),(.int 12),(.int 13),(.int 14),(.int 15),(.int 16),(.int 20),(.int 21)])))
abbrev lV:PE:=.con (.agg [(.bool false),(.int 0),(.int 0),(.list []),(.int 0)])
abbrev ko:PE:=.setc z3 0 (.mk [(pc (.mk [r0]) 5),(pc (.mk [r0]) 6),(pc (.mk [r0]) 7)])
abbrev y0:PE:=.con (.agg [(.int 0),(.int 0),(.int 0),(.int 0),(.int 0),(.int 0),(.int 0),(.int 0),(.int 0),(.int 0),(.int 0),(.int 0),(.int 0),(.int 0),(.int 0),(.list []),(.list []),(.list []),(.list [])])
abbrev Ly:PE:=.put (.put (.put (.put (.con (.map [])) (pi 7) (aU (.ai .and .i64 (pc o6 13) (pi 1)) (pi 0))) (pi 8) (aq (pc o6 2) (pi (-1)))) (pi 9) (aU (.ai .and .i64 (pc o6 13) (pi 4)) (pi 0))) (pi 10) (aU (.ai .and .i64 (pc o6 13) (pi 2)) (pi 0))
abbrev jV:PE:=.con (.agg [(.int 0),(.int 0),(.list [])])
abbrev sd:PE:=.ai .shr .u64 r0 (.con (.v (.int .u64 32)))
abbrev kR:PE:=.con (.agg [(.list []),(.int 0)])
abbrev Tj:PE:=.con (.agg [(.int 0),(.int 0),(.int 0),(.int 0),(.int 0),(.int 0),(.int 0),(.int 0),(.int 0),(.int 0),(.int 0),(.int 0),(.int 0),(.int 0),(.int 0),(.list []),(.list []),(.list []),(.list []),(.int 0),(.int 0),(.int 0),(.int 0),(.int 0)])
abbrev cK:PE:=pi 4294967296
abbrev nQ:PE:=.setc z9 0 (pn (pc (.mk [r1]) 15) r2)
abbrev y9:PE:=.mk [(pc (.setc fg 0 fh) 0),(pc (.setc fg 0 fh) 1)]
abbrev za:PE:=.con (.v (.int .u64 16))
abbrev mT:PE:=.con (.v (.int .u64 8))
abbrev zb:PE:=.setc z9 0 (pn (pc (.mk [r2]) 15) (pc (.mk [r2]) 19))
abbrev jy:PE:=.setc (.mk [r3]) 18 pL
abbrev Tk:PE:=.put (.put (.put (.con (.map [])) (pi 0) (pc o6 3)) (pi 1) (pc o6 14)) (pi 2) (pc o6 5)
abbrev LA:PE:=.pick (.pick (aq (.tget qQ 0) (pi 0)) (pc cq 0) pF) (.setc cq 1 (.mn (.mx (pc cq 1) (pi 0)) (pi 20000))) cq
abbrev DM:PE:=.mk [(pc (.setc o4 0 (.mk [pF,(pi 0)])) 0),(pc (.setc o4 0 (.mk [pF,(pi 0)])) 1)]
abbrev LB:PE:=.con (.agg [(.int 0),(.int 0),(.bool false)])
abbrev wh:PE:=.setc (.setc cq 3 (.tget tW 0)) 4 (.tget tW 1)
abbrev agy:PE:=.ai .add .u64 (.ai .mul .u64 sd (.ai .and .u64 r1 (.con (.v (.int .u64 4294967295))))) (.ai .shr .u64 (.ai .mul .u64 (.ai .and .u64 r0 (.con (.v (.int .u64 4294967295)))) (.ai .and .u64 r1 (.con (.v (.int .u64 4294967295))))) (.con (.v (.int .u64 32))))
abbrev zc:PE:=pc (.mk [r0]) 2
abbrev kS:PE:=pc (.mk [r0]) 0
abbrev LD:PE:=aO (bD (aO (.ai .mul .i64 (pi 12) (.tget jA 0)) (.tget jA 1)) (pi 1)) r1
abbrev km:PE:=au 8 (.mk [r0])
abbrev zd:PE:=.setc z3 0 (pn (pc o2 18) r8)
abbrev ze:PE:=.setc z3 0 (pn (pc o2 18) r6)
abbrev jz:PE:=.setc o2 18 pN
abbrev kT:PE:=.llen (pc o1 1)
abbrev Tl:PE:=.mk [(pc (.setc o4 0 (.mk [(pi 0),(pi 0),pL])) 0),(pc (.setc o4 0 (.mk [(pi 0),(pi 0),pL])) 1),pL]
abbrev zf:PE:=.setc z3 0 (pn bW du)
abbrev wk:PE:=.setc fg 0 (.mk [pT,(pi 1)])
abbrev mU:PE:=.llen (pc o1 3)
abbrev agz:PE:=.pick (.pick (aq (.tget gj 0) (.con (.v (.int .u64 0)))) (aj (.tget gj 1) (.con (.v (.int .u64 1099511627776)))) pF) (.conv .i64 (.tget gj 1)) (pi 1099511627776)
abbrev Tn:PE:=au 5 (.setc o8 0 (.mk [(pc cq 0),(pc cq 1),(pc cq 2),(.o 16394),(pc cq 4)]))
abbrev To:PE:=.mk [(pc (.setc o6 0 (.mk [pF,(pi 0)])) 0),(pc (.setc o6 0 (.mk [pF,(pi 0)])) 1)]
abbrev se:PE:=pc (.mk [r0]) 1
abbrev nR:PE:=.llen (pc o3 2)
abbrev nS:PE:=.llen (pc o1 4)
abbrev agA:PE:=.pick (.pick (.pick (aj (pc zb 2) (pi 0)) pT (bL (pc zb 2) (.llen (pc (.mk [r0]) 3)))) pT (aj r1 (pi 0))) pT (bL r1 (.llen (pc (.mk [r0]) 4)))
abbrev Tp:PE:=.put (.con (.map [])) (pi 7) (aU (.ai .and .i64 (pc o6 13) (pi 1)) (pi 0))
abbrev qL:PE:=pc (.mk [r0]) 15
abbrev agB:PE:=.app o2 (.lst [(pc (.setc (.con (.agg [(.v (.string ⟨#[]⟩)),(.int 0),(.int 0),(.list []),(.list []),(.list [])])) 0 (pn bW du)) 0)])
abbrev pG:PE:=aO r5 (pi 1)
abbrev DN:PE:=bD (pi 2) (pc (pn o7 (pi 0)) 1)
abbrev LF:PE:=.setc jV 0 (.sub (pn (pc o2 3) jA) 1 3)
abbrev qM:PE:=.llen (pc o1 2)
abbrev wq:PE:=.setc z3 0 (pn r1 r5)
abbrev LG:PE:=.pick (aj r1 (pi 3)) (bD r0 (pi 1)) r0
abbrev agC:PE:=.app o4 (.lst [(pc (.setc (.con (.agg [(.v (.string ⟨#[]⟩)),(.bool false),(.list []),(.list [])])) 0 (pn fE nU)) 0)])
abbrev qN:PE:=aO r3 (pi 1)
abbrev zg:PE:=.con (.v (.int .u64 32))
abbrev agD:PE:=.setc (.con (.agg [(.list []),(.list []),(.list []),(.list []),(.list []),(.list []),(.list []),(.list [])])) 0 cR
abbrev agE:PE:=.put (.put (.put Ly (pi 11) (aU DY DZ)) (pi 12) eH) (pi 13) (aU (.ai .and .i64 (pc o8 8) (pi 1)) (pi 0))
abbrev pH:PE:=pn r1 (pi 1)
abbrev sf:PE:=aO r8 (pi 1)
abbrev Tq:PE:=.put (.put Tk (pi 3) (pc o6 12)) (pi 4) (pc o8 0)
abbrev agF:PE:=.pick (be (.llen (pc (pn (pc o1 1) r3) 4)) (pi 70)) pT (be (.llen (pc (pn (pc o1 1) r3) 5)) (pi 210))
abbrev DO:PE:=.setc lV 0 (.tget dJ 0)
abbrev DP:PE:=.setc LB 0 (pn jA gR)
abbrev pI:PE:=.llen zc
abbrev agG:PE:=.app o3 (.lst [(pc (.setc (.con (.agg [(.v (.string ⟨#[]⟩)),(.int 0),(.int 0)])) 0 (pn gR fh)) 0)])
abbrev agH:PE:=.app o4 (.lst [(pc (.setc (.con (.agg [(.int 0),(.int 0),(.int 0),(.list [])])) 0 (pn fh nT)) 0)])
abbrev tS:PE:=.llen (pc o1 0)
abbrev agI:PE:=.an (.cb .eql (pc (pn r1 (pi 0)) 0) (pc y9 0)) (.an (aq (pc (pn r1 (pi 0)) 1) (pc y9 1)) pT)
abbrev agJ:PE:=.app (.o 69637) (.lst [(.mk [(pc (.setc z2 0 (pn pK lZ)) 0),(pc (.setc z2 0 (pn pK lZ)) 1)])])
abbrev DQ:PE:=.ai .shr .u64 sd za
abbrev Tr:PE:=.setc o4 0 (.mk [(pc o9 0),(pc o9 1),(pc o9 2)])
abbrev agK:PE:=.pick (.nt (.nt (.an (.an du pT) (.nt pF)))) (.app (.o 1000) (.lst [(.tup [r5])])) (.o 1000)
abbrev tT:PE:=bD r3 (pi 1)
abbrev zh:PE:=aU (pi 100) (pi 0)
abbrev agL:PE:=.pick (be (aO LH (pi 3)) (pi 12)) (bD (aO LH (pi 3)) (pi 12)) (aO LH (pi 3))
abbrev wu:PE:=.llen (pc o2 18)
abbrev agM:PE:=.setc o4 0 (.mk [(pc (.setc fg 0 (.tget kq 0)) 0),(pc (.setc fg 0 (.tget kq 0)) 1)])
abbrev DR:PE:=.setc z9 0 (pn r34 kr)
abbrev LI:PE:=.setc fg 0 (.mk [pT,(pi 0)])
abbrev LJ:PE:=bD (.llen (pc o3 3)) (pi 1)
abbrev wv:PE:=pn (pc o1 4) r4
abbrev Ts:PE:=aq (.sidx r0 r3) (.con (.v (.int .u8 95)))
abbrev wx:PE:=pc (.mk [r0]) 5
abbrev wy:PE:=pc (.mk [r0]) 4
abbrev agN:PE:=.pick (.pick (aq (pc zf 0) r1) (bJ (pc zf 1) r2) pF) (bJ r2 (pc zf 2)) pF
abbrev wz:PE:=.llen (pc o1 7)
abbrev DS:PE:=.con (.agg [(.int 0)])
abbrev DT:PE:=.ai .shr .u64 r0 za
abbrev DU:PE:=.ai .shr .u32 r0 za
abbrev agO:PE:=aO wj (.ai .mul .i64 (pi 400) (.ai .quo .i64 (aO r0 (pi 730425)) (pi 146097)))
abbrev qP:PE:=pn du dJ
abbrev sk:PE:=aj du eH
abbrev Tt:PE:=.app o5 (.lst [(pc (pn (pc o1 1) r6) 0)])
abbrev Tu:PE:=.app o4 (.lst [(pc (pn (pc o1 3) r5) 0)])
abbrev LK:PE:=.mk [(pc di 0),(pc di 1)]
abbrev y1:PE:=pi 1099511627776
abbrev y2:PE:=bL mT (pi 0)
abbrev Lx:PE:=.con (.v (.int .u64 256))
abbrev y3:PE:=pc (.mk [r1]) 1
abbrev y4:PE:=pc (.mk [r1]) 0
abbrev y5:PE:=aO du (pi 1)
abbrev Th:PE:=.pick (bL r0 (pi 0)) (aj r0 r1) pF
abbrev y6:PE:=.llen (pc o1 5)
abbrev agr:PE:=.setc o4 0 (.mk [(pc (.setc fg 0 LS) 0),(pc (.setc fg 0 LS) 1)])
abbrev ags:PE:=.setc o4 0 (.mk [(pc (.setc fg 0 kU) 0),(pc (.setc fg 0 kU) 1)])
abbrev agt:PE:=.setc kR 0 (.mk [(.lst [(pi 1),(pi (-1)),(pi (-1))]),(pi (-1))])
abbrev agu:PE:=.pick (aU (pc o3 22) (pi (-1))) (bD (pc o8 6) (pc o3 22)) (pi 0)
abbrev Lz:PE:=.mk [kS,se,zc]
abbrev Ti:PE:=.ai .rem .i64 (pn r8 cR) (pi 100)
abbrev y7:PE:=bD r7 (pi 1)
abbrev y8:PE:=bD r5 (pi 1)
abbrev agv:PE:=.app (.o 77829) (.lst [(.mk [(pc di 0),(pc di 1),(pc di 2)])])
abbrev agw:PE:=.app o5 (.lst [(.mk [(pc ze 0),(pc ze 1),(pc ze 2)])])
abbrev agx:PE:=.app o5 (.lst [(.mk [(pc zd 0),(pc zd 1),(pc zd 2)])])
end Rm
