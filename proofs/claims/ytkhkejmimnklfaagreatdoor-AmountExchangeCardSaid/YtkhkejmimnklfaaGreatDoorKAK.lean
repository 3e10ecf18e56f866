/-
  Shared texts of this claim.
-/
import Derived.Test.YtkhkejmimnklfaaGreatDoorKAJ
import Derived.Test.YtkhkejmimnklfaaGreatDoorProg
set_option linter.unusedSimpArgs false
set_option linter.unusedVariables false
namespace Rm
open Go Cx
abbrev str (b:ByteArray):D:=.v (.string b)
def strs (l:List ByteArray):D:=.list (l.map str)
@[simp] theorem aHv (l:List ByteArray):(strs l).l=l.map str:=_root_.id rfl
@[simp] theorem aHu (l:List ByteArray):(strs l).cells=[strs l]:=_root_.id rfl
theorem str_inv {d:D}(h:DTy .str d):∃b,d=str b:=by
 cases h with
 |str b=>exact⟨b,rfl⟩
 |other t d h=>exact h.elim
theorem axj {d:D}(h:DTy (.slice .str) d):∃l:List ByteArray,d=strs l∧l.length≤maxLen:=by
 obtain⟨xs,rfl,hm,hx⟩:=h.slice_inv;obtain⟨l,rfl,hl⟩:=iQ (enc:=str) (P:=fun _=>True) fun x hh=>(str_inv (hx x hh)).imp fun b hb=>⟨hb,trivial⟩
 exact⟨l,rfl,by simpa using hm⟩
@[simp] theorem aCm (t:Tm):(du t).cells=[.int t.op,.int t.n,.list (t.args.map du)]:=by rw[AF];rfl
@[simp] theorem aCn (t:Tm):D.agg [.int t.op,.int t.n,.list (t.args.map du)]=du t:=(AF t).symm
@[simp] theorem aCj (t:Tm):(du t).c 0=.int t.op:=by rw[AF];rfl
@[simp] theorem aCk (t:Tm):(du t).c 1=.int t.n:=by rw[AF];rfl
@[simp] theorem aCl (t:Tm):(du t).c 2=.list (t.args.map du):=by rw[AF];rfl
structure City where
 name:ByteArray
 order:Int
 currency:Int
 rest:List Int
 feasts:List Int
 shut:List Int
 deriving Inhabited
def fO (x:City):D:=.agg [str x.name,.int x.order,.int x.currency,ints x.rest,ints x.feasts,ints x.shut]
@[simp] theorem aA9 (x:City):(fO x).cells=[str x.name,.int x.order,.int x.currency,ints x.rest,ints x.feasts,ints x.shut]:=_root_.id rfl
@[simp] theorem aGc (x:City):D.agg [str x.name,.int x.order,.int x.currency,ints x.rest,ints x.feasts,ints x.shut]=fO x:=_root_.id rfl
@[simp] theorem aC4 (x:City):ga 6 (fO x)=fO x:=_root_.id rfl
@[simp] theorem aA3 (x:City):(fO x).c 0=str x.name:=_root_.id rfl
@[simp] theorem aA4 (x:City):(fO x).c 1=.int x.order:=_root_.id rfl
@[simp] theorem aA5 (x:City):(fO x).c 2=.int x.currency:=_root_.id rfl
@[simp] theorem aA6 (x:City):(fO x).c 3=ints x.rest:=_root_.id rfl
@[simp] theorem aA7 (x:City):(fO x).c 4=ints x.feasts:=_root_.id rfl
@[simp] theorem aA8 (x:City):(fO x).c 5=ints x.shut:=_root_.id rfl
def kc (l:List City):D:=.list (l.map fO)
@[simp] theorem aDz (l:List City):(kc l).l=l.map fO:=_root_.id rfl
@[simp] theorem aDy (l:List City):(kc l).cells=[kc l]:=_root_.id rfl
abbrev UG:Ty:=.agg [.str,.int .i64,.int .i64,.slice (.int .i64),.slice (.int .i64),.slice (.int .i64)]
def City.OK (x:City):Prop:=aS x.order∧aS x.currency∧(x.rest.length≤maxLen∧∀y,y∈x.rest→aS y)∧(x.feasts.length≤maxLen∧∀y,y∈x.feasts→aS y)∧(x.shut.length≤maxLen∧∀y,y∈x.shut→aS y)
theorem alh {d:D}(h:DTy UG d):∃x:City,d=fO x∧x.OK:=by
 obtain⟨ds,rfl,hs⟩:=h.agg_inv;obtain⟨d0,ds,rfl,h0,hs⟩:=hs.cons_inv;obtain⟨d1,ds,rfl,h1,hs⟩:=hs.cons_inv;obtain⟨d2,ds,rfl,h2,hs⟩:=hs.cons_inv;obtain⟨d3,ds,rfl,h3,hs⟩:=hs.cons_inv;obtain⟨d4,ds,rfl,h4,hs⟩:=hs.cons_inv;obtain⟨d5,ds,rfl,h5,hs⟩:=hs.cons_inv;obtain rfl:=hs.nil_inv;obtain⟨n0,rfl⟩:=str_inv h0;obtain⟨n1,rfl,b1⟩:=h1.i64_inv;obtain⟨n2,rfl,b2⟩:=h2.i64_inv;obtain⟨n3,rfl,b3,c3⟩:=h3.ints_inv;obtain⟨n4,rfl,b4,c4⟩:=h4.ints_inv;obtain⟨n5,rfl,b5,c5⟩:=h5.ints_inv;exact⟨⟨n0,n1,n2,n3,n4,n5⟩,rfl,⟨b1,b2,⟨b3,c3⟩,⟨b4,c4⟩,⟨b5,c5⟩⟩⟩
theorem ali {d:D}(h:DTy (.slice UG) d):∃l:List City,d=kc l∧l.length≤maxLen∧∀y,y∈l→City.OK y:=by
 obtain⟨xs,rfl,hm,hx⟩:=h.slice_inv;obtain⟨l,rfl,hl⟩:=iQ (enc:=fO) (P:=City.OK) fun x hh=>alh (hx x hh);exact⟨l,rfl,by simpa using hm,hl⟩
structure Firm where
 name:ByteArray
 city:Int
 group:Int
 deriving Inhabited
def p9 (x:Firm):D:=.agg [str x.name,.int x.city,.int x.group]
@[simp] theorem aBu (x:Firm):(p9 x).cells=[str x.name,.int x.city,.int x.group]:=_root_.id rfl
@[simp] theorem aGg (x:Firm):D.agg [str x.name,.int x.city,.int x.group]=p9 x:=_root_.id rfl
@[simp] theorem aBr (x:Firm):(p9 x).c 0=str x.name:=_root_.id rfl
@[simp] theorem aBs (x:Firm):(p9 x).c 1=.int x.city:=_root_.id rfl
@[simp] theorem aBt (x:Firm):(p9 x).c 2=.int x.group:=_root_.id rfl
def firms (l:List Firm):D:=.list (l.map p9)
@[simp] theorem aEO (l:List Firm):(firms l).l=l.map p9:=_root_.id rfl
@[simp] theorem aEN (l:List Firm):(firms l).cells=[firms l]:=_root_.id rfl
abbrev UI:Ty:=.agg [.str,.int .i64,.int .i64]
def Firm.OK (x:Firm):Prop:=aS x.city∧aS x.group
theorem am3 {d:D}(h:DTy UI d):∃x:Firm,d=p9 x∧x.OK:=by
 obtain⟨ds,rfl,hs⟩:=h.agg_inv;obtain⟨d0,ds,rfl,h0,hs⟩:=hs.cons_inv;obtain⟨d1,ds,rfl,h1,hs⟩:=hs.cons_inv;obtain⟨d2,ds,rfl,h2,hs⟩:=hs.cons_inv;obtain rfl:=hs.nil_inv;obtain⟨n0,rfl⟩:=str_inv h0;obtain⟨n1,rfl,b1⟩:=h1.i64_inv;obtain⟨n2,rfl,b2⟩:=h2.i64_inv;exact⟨⟨n0,n1,n2⟩,rfl,⟨b1,b2⟩⟩
theorem am4 {d:D}(h:DTy (.slice UI) d):∃l:List Firm,d=firms l∧l.length≤maxLen∧∀y,y∈l→Firm.OK y:=by
 obtain⟨xs,rfl,hm,hx⟩:=h.slice_inv;obtain⟨l,rfl,hl⟩:=iQ (enc:=p9) (P:=Firm.OK) fun x hh=>am3 (hx x hh);exact⟨l,rfl,by simpa using hm,hl⟩
structure Group where
 grade:Int
 deriving DecidableEq,Inhabited
def tT (x:Group):D:=.agg [.int x.grade]
@[simp] theorem aBw (x:Group):(tT x).cells=[.int x.grade]:=_root_.id rfl
@[simp] theorem aGh (x:Group):D.agg [.int x.grade]=tT x:=_root_.id rfl
@[simp] theorem aBv (x:Group):(tT x).c 0=.int x.grade:=_root_.id rfl
def groups (l:List Group):D:=.list (l.map tT)
@[simp] theorem aEX (l:List Group):(groups l).l=l.map tT:=_root_.id rfl
@[simp] theorem aEW (l:List Group):(groups l).cells=[groups l]:=_root_.id rfl
abbrev UJ:Ty:=.agg [.int .i64]
def Group.OK (x:Group):Prop:=aS x.grade
theorem apI {d:D}(h:DTy UJ d):∃x:Group,d=tT x∧x.OK:=by
 obtain⟨ds,rfl,hs⟩:=h.agg_inv;obtain⟨d0,ds,rfl,h0,hs⟩:=hs.cons_inv;obtain rfl:=hs.nil_inv;obtain⟨n0,rfl,b0⟩:=h0.i64_inv;exact⟨⟨n0⟩,rfl,b0⟩
theorem apJ {d:D}(h:DTy (.slice UJ) d):∃l:List Group,d=groups l∧l.length≤maxLen∧∀y,y∈l→Group.OK y:=by
 obtain⟨xs,rfl,hm,hx⟩:=h.slice_inv;obtain⟨l,rfl,hl⟩:=iQ (enc:=tT) (P:=Group.OK) fun x hh=>apI (hx x hh);exact⟨l,rfl,by simpa using hm,hl⟩
structure Usance where
 fr:Int
 to:Int
 days:Int
 deriving DecidableEq,Inhabited
def qe (x:Usance):D:=.agg [.int x.fr,.int x.to,.int x.days]
@[simp] theorem aCw (x:Usance):(qe x).cells=[.int x.fr,.int x.to,.int x.days]:=_root_.id rfl
@[simp] theorem aGs (x:Usance):D.agg [.int x.fr,.int x.to,.int x.days]=qe x:=_root_.id rfl
@[simp] theorem aCt (x:Usance):(qe x).c 0=.int x.fr:=_root_.id rfl
@[simp] theorem aCu (x:Usance):(qe x).c 1=.int x.to:=_root_.id rfl
@[simp] theorem aCv (x:Usance):(qe x).c 2=.int x.days:=_root_.id rfl
def usances (l:List Usance):D:=.list (l.map qe)
@[simp] theorem aHz (l:List Usance):(usances l).l=l.map qe:=_root_.id rfl
@[simp] theorem aHy (l:List Usance):(usances l).cells=[usances l]:=_root_.id rfl
abbrev UP:Ty:=.agg [.int .i64,.int .i64,.int .i64]
def Usance.OK (x:Usance):Prop:=aS x.fr∧aS x.to∧aS x.days
theorem azR {d:D}(h:DTy UP d):∃x:Usance,d=qe x∧x.OK:=by
 obtain⟨ds,rfl,hs⟩:=h.agg_inv;obtain⟨d0,ds,rfl,h0,hs⟩:=hs.cons_inv;obtain⟨d1,ds,rfl,h1,hs⟩:=hs.cons_inv;obtain⟨d2,ds,rfl,h2,hs⟩:=hs.cons_inv;obtain rfl:=hs.nil_inv;obtain⟨n0,rfl,b0⟩:=h0.i64_inv;obtain⟨n1,rfl,b1⟩:=h1.i64_inv;obtain⟨n2,rfl,b2⟩:=h2.i64_inv;exact⟨⟨n0,n1,n2⟩,rfl,⟨b0,b1,b2⟩⟩
theorem azS {d:D}(h:DTy (.slice UP) d):∃l:List Usance,d=usances l∧l.length≤maxLen∧∀y,y∈l→Usance.OK y:=by
 obtain⟨xs,rfl,hm,hx⟩:=h.slice_inv;obtain⟨l,rfl,hl⟩:=iQ (enc:=qe) (P:=Usance.OK) fun x hh=>azR (hx x hh);exact⟨l,rfl,by simpa using hm,hl⟩
structure Rate where
 fr:Int
 to:Int
 num:Int
 den:Int
 since:Int
 deriving DecidableEq,Inhabited
def nu (x:Rate):D:=.agg [.int x.fr,.int x.to,.int x.num,.int x.den,.int x.since]
@[simp] theorem aBT (x:Rate):(nu x).cells=[.int x.fr,.int x.to,.int x.num,.int x.den,.int x.since]:=_root_.id rfl
@[simp] theorem aGl (x:Rate):D.agg [.int x.fr,.int x.to,.int x.num,.int x.den,.int x.since]=nu x:=_root_.id rfl
@[simp] theorem aBO (x:Rate):(nu x).c 0=.int x.fr:=_root_.id rfl
@[simp] theorem aBP (x:Rate):(nu x).c 1=.int x.to:=_root_.id rfl
@[simp] theorem aBQ (x:Rate):(nu x).c 2=.int x.num:=_root_.id rfl
@[simp] theorem aBR (x:Rate):(nu x).c 3=.int x.den:=_root_.id rfl
@[simp] theorem aBS (x:Rate):(nu x).c 4=.int x.since:=_root_.id rfl
def rates (l:List Rate):D:=.list (l.map nu)
@[simp] theorem aGQ (l:List Rate):(rates l).l=l.map nu:=_root_.id rfl
abbrev UM:Ty:=.agg [.int .i64,.int .i64,.int .i64,.int .i64,.int .i64]
def Rate.OK (x:Rate):Prop:=aS x.fr∧aS x.to∧aS x.num∧aS x.den∧aS x.since
theorem awm {d:D}(h:DTy UM d):∃x:Rate,d=nu x∧x.OK:=by
 obtain⟨ds,rfl,hs⟩:=h.agg_inv;obtain⟨d0,ds,rfl,h0,hs⟩:=hs.cons_inv;obtain⟨d1,ds,rfl,h1,hs⟩:=hs.cons_inv;obtain⟨d2,ds,rfl,h2,hs⟩:=hs.cons_inv;obtain⟨d3,ds,rfl,h3,hs⟩:=hs.cons_inv;obtain⟨d4,ds,rfl,h4,hs⟩:=hs.cons_inv;obtain rfl:=hs.nil_inv;obtain⟨n0,rfl,b0⟩:=h0.i64_inv;obtain⟨n1,rfl,b1⟩:=h1.i64_inv;obtain⟨n2,rfl,b2⟩:=h2.i64_inv;obtain⟨n3,rfl,b3⟩:=h3.i64_inv;obtain⟨n4,rfl,b4⟩:=h4.i64_inv;exact⟨⟨n0,n1,n2,n3,n4⟩,rfl,⟨b0,b1,b2,b3,b4⟩⟩
theorem awn {d:D}(h:DTy (.slice UM) d):∃l:List Rate,d=rates l∧l.length≤maxLen∧∀y,y∈l→Rate.OK y:=by
 obtain⟨xs,rfl,hm,hx⟩:=h.slice_inv;obtain⟨l,rfl,hl⟩:=iQ (enc:=nu) (P:=Rate.OK) fun x hh=>awm (hx x hh);exact⟨l,rfl,by simpa using hm,hl⟩
structure Halt where
 order:Int
 fr:Int
 to:Int
 deriving DecidableEq,Inhabited
def qa (x:Halt):D:=.agg [.int x.order,.int x.fr,.int x.to]
@[simp] theorem aBA (x:Halt):(qa x).cells=[.int x.order,.int x.fr,.int x.to]:=_root_.id rfl
@[simp] theorem aGi (x:Halt):D.agg [.int x.order,.int x.fr,.int x.to]=qa x:=_root_.id rfl
@[simp] theorem aBx (x:Halt):(qa x).c 0=.int x.order:=_root_.id rfl
@[simp] theorem aBy (x:Halt):(qa x).c 1=.int x.fr:=_root_.id rfl
@[simp] theorem aBz (x:Halt):(qa x).c 2=.int x.to:=_root_.id rfl
def halts (l:List Halt):D:=.list (l.map qa)
@[simp] theorem aFc (l:List Halt):(halts l).l=l.map qa:=_root_.id rfl
@[simp] theorem aFb (l:List Halt):(halts l).cells=[halts l]:=_root_.id rfl
abbrev UK:Ty:=.agg [.int .i64,.int .i64,.int .i64]
def Halt.OK (x:Halt):Prop:=aS x.order∧aS x.fr∧aS x.to
theorem aqe {d:D}(h:DTy UK d):∃x:Halt,d=qa x∧x.OK:=by
 obtain⟨ds,rfl,hs⟩:=h.agg_inv;obtain⟨d0,ds,rfl,h0,hs⟩:=hs.cons_inv;obtain⟨d1,ds,rfl,h1,hs⟩:=hs.cons_inv;obtain⟨d2,ds,rfl,h2,hs⟩:=hs.cons_inv;obtain rfl:=hs.nil_inv;obtain⟨n0,rfl,b0⟩:=h0.i64_inv;obtain⟨n1,rfl,b1⟩:=h1.i64_inv;obtain⟨n2,rfl,b2⟩:=h2.i64_inv;exact⟨⟨n0,n1,n2⟩,rfl,⟨b0,b1,b2⟩⟩
theorem aqf {d:D}(h:DTy (.slice UK) d):∃l:List Halt,d=halts l∧l.length≤maxLen∧∀y,y∈l→Halt.OK y:=by
 obtain⟨xs,rfl,hm,hx⟩:=h.slice_inv;obtain⟨l,rfl,hl⟩:=iQ (enc:=qa) (P:=Halt.OK) fun x hh=>aqe (hx x hh);exact⟨l,rfl,by simpa using hm,hl⟩
structure Choice where
 ask:Int
 by_:Int
 whole:Bool
 deriving DecidableEq,Inhabited
def rn (x:Choice):D:=.agg [.int x.ask,.int x.by_,.bool x.whole]
@[simp] theorem aA2 (x:Choice):(rn x).cells=[.int x.ask,.int x.by_,.bool x.whole]:=_root_.id rfl
@[simp] theorem aGb (x:Choice):D.agg [.int x.ask,.int x.by_,.bool x.whole]=rn x:=_root_.id rfl
@[simp] theorem aA0 (x:Choice):(rn x).c 0=.int x.ask:=_root_.id rfl
@[simp] theorem aA1 (x:Choice):(rn x).c 1=.int x.by_:=_root_.id rfl
def choices (l:List Choice):D:=.list (l.map rn)
@[simp] theorem aDx (l:List Choice):(choices l).l=l.map rn:=_root_.id rfl
abbrev UF:Ty:=.agg [.int .i64,.int .i64,.bool]
def Choice.OK (x:Choice):Prop:=aS x.ask∧aS x.by_
theorem alf {d:D}(h:DTy UF d):∃x:Choice,d=rn x∧x.OK:=by
 obtain⟨ds,rfl,hs⟩:=h.agg_inv;obtain⟨d0,ds,rfl,h0,hs⟩:=hs.cons_inv;obtain⟨d1,ds,rfl,h1,hs⟩:=hs.cons_inv;obtain⟨d2,ds,rfl,h2,hs⟩:=hs.cons_inv;obtain rfl:=hs.nil_inv;obtain⟨n0,rfl,b0⟩:=h0.i64_inv;obtain⟨n1,rfl,b1⟩:=h1.i64_inv;obtain⟨n2,rfl⟩:=h2.bool_inv;exact⟨⟨n0,n1,n2⟩,rfl,⟨b0,b1⟩⟩
theorem alg {d:D}(h:DTy (.slice UF) d):∃l:List Choice,d=choices l∧l.length≤maxLen∧∀y,y∈l→Choice.OK y:=by
 obtain⟨xs,rfl,hm,hx⟩:=h.slice_inv;obtain⟨l,rfl,hl⟩:=iQ (enc:=rn) (P:=Choice.OK) fun x hh=>alf (hx x hh);exact⟨l,rfl,by simpa using hm,hl⟩
structure Rule where
 ask:Int
 term:Tm
 deriving Inhabited
def qd (x:Rule):D:=.agg [.int x.ask,.int x.term.op,.int x.term.n,.list (x.term.args.map du)]
@[simp] theorem aB4 (x:Rule):(qd x).cells=[.int x.ask,.int x.term.op,.int x.term.n,.list (x.term.args.map du)]:=_root_.id rfl
@[simp] theorem aGn (x:Rule):D.agg [.int x.ask,.int x.term.op,.int x.term.n,.list (x.term.args.map du)]=qd x:=_root_.id rfl
@[simp] theorem aB3 (x:Rule):(qd x).c 0=.int x.ask:=_root_.id rfl
def rules (l:List Rule):D:=.list (l.map qd)
@[simp] theorem aGU (l:List Rule):(rules l).l=l.map qd:=_root_.id rfl
abbrev UN:Ty:=.agg [.int .i64,.int .i64,.int .i64,.slice .trm]
def Rule.OK (x:Rule):Prop:=aS x.ask∧Tm.OK x.term
theorem awS {d:D}(h:DTy UN d):∃x:Rule,d=qd x∧x.OK:=by
 obtain⟨ds,rfl,hs⟩:=h.agg_inv;obtain⟨d0,ds,rfl,h0,hs⟩:=hs.cons_inv;obtain⟨d1,ds,rfl,h1,hs⟩:=hs.cons_inv;obtain⟨d2,ds,rfl,h2,hs⟩:=hs.cons_inv;obtain⟨d3,ds,rfl,h3,hs⟩:=hs.cons_inv;obtain rfl:=hs.nil_inv;obtain⟨n0,rfl,b0⟩:=h0.i64_inv;obtain⟨n1,rfl,b1⟩:=h1.i64_inv;obtain⟨n2,rfl,b2⟩:=h2.i64_inv;obtain⟨n3,rfl,b3,c3⟩:=h3.trms_inv;exact⟨⟨n0,.mk n1 n2 n3⟩,rfl,⟨b0,.mk _ _ _ b1 b2 b3 c3⟩⟩
theorem awT {d:D}(h:DTy (.slice UN) d):∃l:List Rule,d=rules l∧l.length≤maxLen∧∀y,y∈l→Rule.OK y:=by
 obtain⟨xs,rfl,hm,hx⟩:=h.slice_inv;obtain⟨l,rfl,hl⟩:=iQ (enc:=qd) (P:=Rule.OK) fun x hh=>awS (hx x hh);exact⟨l,rfl,by simpa using hm,hl⟩
structure Order where
 name:ByteArray
 accepts:Bool
 choices:List Choice
 rules:List Rule
 deriving Inhabited
def jd (x:Order):D:=.agg [str x.name,.bool x.accepts,choices x.choices,rules x.rules]
@[simp] theorem aBF (x:Order):(jd x).cells=[str x.name,.bool x.accepts,choices x.choices,rules x.rules]:=_root_.id rfl
@[simp] theorem aGj (x:Order):D.agg [str x.name,.bool x.accepts,choices x.choices,rules x.rules]=jd x:=_root_.id rfl
@[simp] theorem aC7 (x:Order):ga 4 (jd x)=jd x:=_root_.id rfl
@[simp] theorem aBB (x:Order):(jd x).c 0=str x.name:=_root_.id rfl
@[simp] theorem aBC (x:Order):(jd x).c 1=.bool x.accepts:=_root_.id rfl
@[simp] theorem aBD (x:Order):(jd x).c 2=choices x.choices:=_root_.id rfl
@[simp] theorem aBE (x:Order):(jd x).c 3=rules x.rules:=_root_.id rfl
def orders (l:List Order):D:=.list (l.map jd)
@[simp] theorem aGB (l:List Order):(orders l).l=l.map jd:=_root_.id rfl
@[simp] theorem aGA (l:List Order):(orders l).cells=[orders l]:=_root_.id rfl
abbrev UL:Ty:=.agg [.str,.bool,.slice UF,.slice UN]
def Order.OK (x:Order):Prop:=(x.choices.length≤maxLen∧∀y,y∈x.choices→Choice.OK y)∧(x.rules.length≤maxLen∧∀y,y∈x.rules→Rule.OK y)
theorem avA {d:D}(h:DTy UL d):∃x:Order,d=jd x∧x.OK:=by
 obtain⟨ds,rfl,hs⟩:=h.agg_inv;obtain⟨d0,ds,rfl,h0,hs⟩:=hs.cons_inv;obtain⟨d1,ds,rfl,h1,hs⟩:=hs.cons_inv;obtain⟨d2,ds,rfl,h2,hs⟩:=hs.cons_inv;obtain⟨d3,ds,rfl,h3,hs⟩:=hs.cons_inv;obtain rfl:=hs.nil_inv;obtain⟨n0,rfl⟩:=str_inv h0;obtain⟨n1,rfl⟩:=h1.bool_inv;obtain⟨n2,rfl,b2,c2⟩:=alg h2;obtain⟨n3,rfl,b3,c3⟩:=awT h3;exact⟨⟨n0,n1,n2,n3⟩,rfl,⟨⟨b2,c2⟩,⟨b3,c3⟩⟩⟩
theorem avB {d:D}(h:DTy (.slice UL) d):∃l:List Order,d=orders l∧l.length≤maxLen∧∀y,y∈l→Order.OK y:=by
 obtain⟨xs,rfl,hm,hx⟩:=h.slice_inv;obtain⟨l,rfl,hl⟩:=iQ (enc:=jd) (P:=Order.OK) fun x hh=>avA (hx x hh);exact⟨l,rfl,by simpa using hm,hl⟩
structure Realm where
 currencies:List ByteArray
 cities:List City
 groups:List Group
 firms:List Firm
 orders:List Order
 usances:List Usance
 rates:List Rate
 halts:List Halt
 deriving Inhabited
def aX (x:Realm):D:=.agg [strs x.currencies,kc x.cities,groups x.groups,firms x.firms,orders x.orders,usances x.usances,rates x.rates,halts x.halts]
@[simp] theorem aB2 (x:Realm):(aX x).cells=[strs x.currencies,kc x.cities,groups x.groups,firms x.firms,orders x.orders,usances x.usances,rates x.rates,halts x.halts]:=_root_.id rfl
@[simp] theorem aGm (x:Realm):D.agg [strs x.currencies,kc x.cities,groups x.groups,firms x.firms,orders x.orders,usances x.usances,rates x.rates,halts x.halts]=aX x:=_root_.id rfl
@[simp] theorem aC9 (x:Realm):ga 8 (aX x)=aX x:=_root_.id rfl
@[simp] theorem aGF (x:Realm)(a0 a1 a2 a3 a4 a5 a6 a7:D):D.agg (cK [a0,a1,a2,a3,a4,a5,a6,a7] 0 [strs x.currencies,kc x.cities,groups x.groups,firms x.firms,orders x.orders,usances x.usances,rates x.rates,halts x.halts])=aX x:=_root_.id rfl
@[simp] theorem aBU (x:Realm):(aX x).c 0=strs x.currencies:=_root_.id rfl
@[simp] theorem aBV (x:Realm):(aX x).c 1=kc x.cities:=_root_.id rfl
@[simp] theorem aBW (x:Realm):(aX x).c 2=groups x.groups:=_root_.id rfl
@[simp] theorem aBX (x:Realm):(aX x).c 3=firms x.firms:=_root_.id rfl
@[simp] theorem aBY (x:Realm):(aX x).c 4=orders x.orders:=_root_.id rfl
@[simp] theorem aBZ (x:Realm):(aX x).c 5=usances x.usances:=_root_.id rfl
@[simp] theorem aB0 (x:Realm):(aX x).c 6=rates x.rates:=_root_.id rfl
@[simp] theorem aB1 (x:Realm):(aX x).c 7=halts x.halts:=_root_.id rfl
abbrev azK:Ty:=.agg [.slice .str,.slice UG,.slice UJ,.slice UI,.slice UL,.slice UP,.slice UM,.slice UK]
def Realm.OK (x:Realm):Prop:=x.currencies.length≤maxLen∧(x.cities.length≤maxLen∧∀y,y∈x.cities→City.OK y)∧(x.groups.length≤maxLen∧∀y,y∈x.groups→Group.OK y)∧(x.firms.length≤maxLen∧∀y,y∈x.firms→Firm.OK y)∧(x.orders.length≤maxLen∧∀y,y∈x.orders→Order.OK y)∧(x.usances.length≤maxLen∧∀y,y∈x.usances→Usance.OK y)∧(x.rates.length≤maxLen∧∀y,y∈x.rates→Rate.OK y)∧(x.halts.length≤maxLen∧∀y,y∈x.halts→Halt.OK y)
theorem aww {d:D}(h:DTy azK d):∃x:Realm,d=aX x∧x.OK:=by
 obtain⟨ds,rfl,hs⟩:=h.agg_inv;obtain⟨d0,ds,rfl,h0,hs⟩:=hs.cons_inv;obtain⟨d1,ds,rfl,h1,hs⟩:=hs.cons_inv;obtain⟨d2,ds,rfl,h2,hs⟩:=hs.cons_inv;obtain⟨d3,ds,rfl,h3,hs⟩:=hs.cons_inv;obtain⟨d4,ds,rfl,h4,hs⟩:=hs.cons_inv;obtain⟨d5,ds,rfl,h5,hs⟩:=hs.cons_inv;obtain⟨d6,ds,rfl,h6,hs⟩:=hs.cons_inv;obtain⟨d7,ds,rfl,h7,hs⟩:=hs.cons_inv;obtain rfl:=hs.nil_inv;obtain⟨n0,rfl,b0⟩:=axj h0;obtain⟨n1,rfl,b1,c1⟩:=ali h1;obtain⟨n2,rfl,b2,c2⟩:=apJ h2;obtain⟨n3,rfl,b3,c3⟩:=am4 h3;obtain⟨n4,rfl,b4,c4⟩:=avB h4;obtain⟨n5,rfl,b5,c5⟩:=azS h5;obtain⟨n6,rfl,b6,c6⟩:=awn h6;obtain⟨n7,rfl,b7,c7⟩:=aqf h7;exact⟨⟨n0,n1,n2,n3,n4,n5,n6,n7⟩,rfl,⟨b0,⟨b1,c1⟩,⟨b2,c2⟩,⟨b3,c3⟩,⟨b4,c4⟩,⟨b5,c5⟩,⟨b6,c6⟩,⟨b7,c7⟩⟩⟩
structure Tenor where
 kind:Int
 n:Int
 unit:Int
 deriving DecidableEq,Inhabited
def mj (x:Tenor):D:=.agg [.int x.kind,.int x.n,.int x.unit]
@[simp] theorem aCr (x:Tenor):(mj x).cells=[.int x.kind,.int x.n,.int x.unit]:=_root_.id rfl
@[simp] theorem aGr (x:Tenor):D.agg [.int x.kind,.int x.n,.int x.unit]=mj x:=_root_.id rfl
@[simp] theorem aCo (x:Tenor):(mj x).c 0=.int x.kind:=_root_.id rfl
@[simp] theorem aCp (x:Tenor):(mj x).c 1=.int x.n:=_root_.id rfl
@[simp] theorem aCq (x:Tenor):(mj x).c 2=.int x.unit:=_root_.id rfl
def Tenor.OK (x:Tenor):Prop:=aS x.kind∧aS x.n∧aS x.unit
structure Bill where
 drawer:Int
 drawee:Int
 payee:Int
 sum:Int
 currency:Int
 tenor:Tenor
 day:Int
 city:Int
 pay:Int
 need:Int
 rate:Int
 flags:Int
 parts:Int
 deriving DecidableEq,Inhabited
def cX (x:Bill):D:=.agg [.int x.drawer,.int x.drawee,.int x.payee,.int x.sum,.int x.currency,.int x.tenor.kind,.int x.tenor.n,.int x.tenor.unit,.int x.day,.int x.city,.int x.pay,.int x.need,.int x.rate,.int x.flags,.int x.parts]
@[simp] theorem aAN (x:Bill):(cX x).cells=[.int x.drawer,.int x.drawee,.int x.payee,.int x.sum,.int x.currency,.int x.tenor.kind,.int x.tenor.n,.int x.tenor.unit,.int x.day,.int x.city,.int x.pay,.int x.need,.int x.rate,.int x.flags,.int x.parts]:=_root_.id rfl
@[simp] theorem aF8 (x:Bill):D.agg [.int x.drawer,.int x.drawee,.int x.payee,.int x.sum,.int x.currency,.int x.tenor.kind,.int x.tenor.n,.int x.tenor.unit,.int x.day,.int x.city,.int x.pay,.int x.need,.int x.rate,.int x.flags,.int x.parts]=cX x:=_root_.id rfl
@[simp] theorem aC3 (x:Bill):ga 15 (cX x)=cX x:=_root_.id rfl
@[simp] theorem aGC (x:Bill)(a0 a1 a2 a3 a4 a5 a6 a7 a8 a9 kS kT kU kV kW:D):D.agg (cK [a0,a1,a2,a3,a4,a5,a6,a7,a8,a9,kS,kT,kU,kV,kW] 0 [.int x.drawer,.int x.drawee,.int x.payee,.int x.sum,.int x.currency,.int x.tenor.kind,.int x.tenor.n,.int x.tenor.unit,.int x.day,.int x.city,.int x.pay,.int x.need,.int x.rate,.int x.flags,.int x.parts])=cX x:=_root_.id rfl
@[simp] theorem aAy (x:Bill):(cX x).c 0=.int x.drawer:=_root_.id rfl
@[simp] theorem aAz (x:Bill):(cX x).c 1=.int x.drawee:=_root_.id rfl
@[simp] theorem aAF (x:Bill):(cX x).c 2=.int x.payee:=_root_.id rfl
@[simp] theorem aAG (x:Bill):(cX x).c 3=.int x.sum:=_root_.id rfl
@[simp] theorem aAH (x:Bill):(cX x).c 4=.int x.currency:=_root_.id rfl
@[simp] theorem aAI (x:Bill):(cX x).c 5=.int x.tenor.kind:=_root_.id rfl
@[simp] theorem aAJ (x:Bill):(cX x).c 6=.int x.tenor.n:=_root_.id rfl
@[simp] theorem aAK (x:Bill):(cX x).c 7=.int x.tenor.unit:=_root_.id rfl
@[simp] theorem aAL (x:Bill):(cX x).c 8=.int x.day:=_root_.id rfl
@[simp] theorem aAM (x:Bill):(cX x).c 9=.int x.city:=_root_.id rfl
@[simp] theorem aAA (x:Bill):(cX x).c 10=.int x.pay:=_root_.id rfl
@[simp] theorem aAB (x:Bill):(cX x).c 11=.int x.need:=_root_.id rfl
@[simp] theorem aAC (x:Bill):(cX x).c 12=.int x.rate:=_root_.id rfl
@[simp] theorem aAD (x:Bill):(cX x).c 13=.int x.flags:=_root_.id rfl
@[simp] theorem aAE (x:Bill):(cX x).c 14=.int x.parts:=_root_.id rfl
def Bill.OK (x:Bill):Prop:=aS x.drawer∧aS x.drawee∧aS x.payee∧aS x.sum∧aS x.currency∧Tenor.OK x.tenor∧aS x.day∧aS x.city∧aS x.pay∧aS x.need∧aS x.rate∧aS x.flags∧aS x.parts
structure Sign where
 kind:Int
 part:Int
 who:Int
 for_:Int
 to:Int
 sum:Int
 day:Int
 city:Int
 flags:Int
 deriving DecidableEq,Inhabited
def iy (x:Sign):D:=.agg [.int x.kind,.int x.part,.int x.who,.int x.for_,.int x.to,.int x.sum,.int x.day,.int x.city,.int x.flags]
@[simp] theorem aCi (x:Sign):(iy x).cells=[.int x.kind,.int x.part,.int x.who,.int x.for_,.int x.to,.int x.sum,.int x.day,.int x.city,.int x.flags]:=_root_.id rfl
@[simp] theorem aGq (x:Sign):D.agg [.int x.kind,.int x.part,.int x.who,.int x.for_,.int x.to,.int x.sum,.int x.day,.int x.city,.int x.flags]=iy x:=_root_.id rfl
@[simp] theorem aDb (x:Sign):ga 9 (iy x)=iy x:=_root_.id rfl
@[simp] theorem aB9 (x:Sign):(iy x).c 0=.int x.kind:=_root_.id rfl
@[simp] theorem aCa (x:Sign):(iy x).c 1=.int x.part:=_root_.id rfl
@[simp] theorem aCb (x:Sign):(iy x).c 2=.int x.who:=_root_.id rfl
@[simp] theorem aCc (x:Sign):(iy x).c 3=.int x.for_:=_root_.id rfl
@[simp] theorem aCd (x:Sign):(iy x).c 4=.int x.to:=_root_.id rfl
@[simp] theorem aCe (x:Sign):(iy x).c 5=.int x.sum:=_root_.id rfl
@[simp] theorem aCf (x:Sign):(iy x).c 6=.int x.day:=_root_.id rfl
@[simp] theorem aCg (x:Sign):(iy x).c 7=.int x.city:=_root_.id rfl
@[simp] theorem aCh (x:Sign):(iy x).c 8=.int x.flags:=_root_.id rfl
def signs (l:List Sign):D:=.list (l.map iy)
@[simp] theorem aG7 (l:List Sign):(signs l).l=l.map iy:=_root_.id rfl
@[simp] theorem aG6 (l:List Sign):(signs l).cells=[signs l]:=_root_.id rfl
abbrev UO:Ty:=.agg [.int .i64,.int .i64,.int .i64,.int .i64,.int .i64,.int .i64,.int .i64,.int .i64,.int .i64]
def Sign.OK (x:Sign):Prop:=aS x.kind∧aS x.part∧aS x.who∧aS x.for_∧aS x.to∧aS x.sum∧aS x.day∧aS x.city∧aS x.flags
theorem axa {d:D}(h:DTy UO d):∃x:Sign,d=iy x∧x.OK:=by
 obtain⟨ds,rfl,hs⟩:=h.agg_inv;obtain⟨d0,ds,rfl,h0,hs⟩:=hs.cons_inv;obtain⟨d1,ds,rfl,h1,hs⟩:=hs.cons_inv;obtain⟨d2,ds,rfl,h2,hs⟩:=hs.cons_inv;obtain⟨d3,ds,rfl,h3,hs⟩:=hs.cons_inv;obtain⟨d4,ds,rfl,h4,hs⟩:=hs.cons_inv;obtain⟨d5,ds,rfl,h5,hs⟩:=hs.cons_inv;obtain⟨d6,ds,rfl,h6,hs⟩:=hs.cons_inv;obtain⟨d7,ds,rfl,h7,hs⟩:=hs.cons_inv;obtain⟨d8,ds,rfl,h8,hs⟩:=hs.cons_inv;obtain rfl:=hs.nil_inv;obtain⟨n0,rfl,b0⟩:=h0.i64_inv;obtain⟨n1,rfl,b1⟩:=h1.i64_inv;obtain⟨n2,rfl,b2⟩:=h2.i64_inv;obtain⟨n3,rfl,b3⟩:=h3.i64_inv;obtain⟨n4,rfl,b4⟩:=h4.i64_inv;obtain⟨n5,rfl,b5⟩:=h5.i64_inv;obtain⟨n6,rfl,b6⟩:=h6.i64_inv;obtain⟨n7,rfl,b7⟩:=h7.i64_inv;obtain⟨n8,rfl,b8⟩:=h8.i64_inv;exact⟨⟨n0,n1,n2,n3,n4,n5,n6,n7,n8⟩,rfl,⟨b0,b1,b2,b3,b4,b5,b6,b7,b8⟩⟩
theorem axc {d:D}(h:DTy (.slice UO) d):∃l:List Sign,d=signs l∧l.length≤maxLen∧∀y,y∈l→Sign.OK y:=by
 obtain⟨xs,rfl,hm,hx⟩:=h.slice_inv;obtain⟨l,rfl,hl⟩:=iQ (enc:=iy) (P:=Sign.OK) fun x hh=>axa (hx x hh);exact⟨l,rfl,by simpa using hm,hl⟩
structure Alter where
 at_:Int
 sum:Int
 deriving DecidableEq,Inhabited
def ns (x:Alter):D:=.agg [.int x.at_,.int x.sum]
@[simp] theorem aAx (x:Alter):(ns x).cells=[.int x.at_,.int x.sum]:=_root_.id rfl
@[simp] theorem aF7 (x:Alter):D.agg [.int x.at_,.int x.sum]=ns x:=_root_.id rfl
@[simp] theorem aAv (x:Alter):(ns x).c 0=.int x.at_:=_root_.id rfl
@[simp] theorem aAw (x:Alter):(ns x).c 1=.int x.sum:=_root_.id rfl
def alters (l:List Alter):D:=.list (l.map ns)
@[simp] theorem aDf (l:List Alter):(alters l).l=l.map ns:=_root_.id rfl
@[simp] theorem aDe (l:List Alter):(alters l).cells=[alters l]:=_root_.id rfl
abbrev UE:Ty:=.agg [.int .i64,.int .i64]
def Alter.OK (x:Alter):Prop:=aS x.at_∧aS x.sum
theorem af8 {d:D}(h:DTy UE d):∃x:Alter,d=ns x∧x.OK:=by
 obtain⟨ds,rfl,hs⟩:=h.agg_inv;obtain⟨d0,ds,rfl,h0,hs⟩:=hs.cons_inv;obtain⟨d1,ds,rfl,h1,hs⟩:=hs.cons_inv;obtain rfl:=hs.nil_inv;obtain⟨n0,rfl,b0⟩:=h0.i64_inv;obtain⟨n1,rfl,b1⟩:=h1.i64_inv;exact⟨⟨n0,n1⟩,rfl,⟨b0,b1⟩⟩
theorem af9 {d:D}(h:DTy (.slice UE) d):∃l:List Alter,d=alters l∧l.length≤maxLen∧∀y,y∈l→Alter.OK y:=by
 obtain⟨xs,rfl,hm,hx⟩:=h.slice_inv;obtain⟨l,rfl,hl⟩:=iQ (enc:=ns) (P:=Alter.OK) fun x hh=>af8 (hx x hh);exact⟨l,rfl,by simpa using hm,hl⟩
structure Act where
 kind:Int
 who:Int
 to:Int
 part:Int
 at_:Int
 sum:Int
 day:Int
 city:Int
 form:Int
 deriving DecidableEq,Inhabited
def gS (x:Act):D:=.agg [.int x.kind,.int x.who,.int x.to,.int x.part,.int x.at_,.int x.sum,.int x.day,.int x.city,.int x.form]
@[simp] theorem aAu (x:Act):(gS x).cells=[.int x.kind,.int x.who,.int x.to,.int x.part,.int x.at_,.int x.sum,.int x.day,.int x.city,.int x.form]:=_root_.id rfl
@[simp] theorem aF6 (x:Act):D.agg [.int x.kind,.int x.who,.int x.to,.int x.part,.int x.at_,.int x.sum,.int x.day,.int x.city,.int x.form]=gS x:=_root_.id rfl
@[simp] theorem aC2 (x:Act):ga 9 (gS x)=gS x:=_root_.id rfl
@[simp] theorem aAl (x:Act):(gS x).c 0=.int x.kind:=_root_.id rfl
@[simp] theorem aAm (x:Act):(gS x).c 1=.int x.who:=_root_.id rfl
@[simp] theorem aAn (x:Act):(gS x).c 2=.int x.to:=_root_.id rfl
@[simp] theorem aAo (x:Act):(gS x).c 3=.int x.part:=_root_.id rfl
@[simp] theorem aAp (x:Act):(gS x).c 4=.int x.at_:=_root_.id rfl
@[simp] theorem aAq (x:Act):(gS x).c 5=.int x.sum:=_root_.id rfl
@[simp] theorem aAr (x:Act):(gS x).c 6=.int x.day:=_root_.id rfl
@[simp] theorem aAs (x:Act):(gS x).c 7=.int x.city:=_root_.id rfl
@[simp] theorem aAt (x:Act):(gS x).c 8=.int x.form:=_root_.id rfl
def acts (l:List Act):D:=.list (l.map gS)
@[simp] theorem aCW (l:List Act):(acts l).l=l.map gS:=_root_.id rfl
@[simp] theorem aCV (l:List Act):(acts l).cells=[acts l]:=_root_.id rfl
abbrev UD:Ty:=.agg [.int .i64,.int .i64,.int .i64,.int .i64,.int .i64,.int .i64,.int .i64,.int .i64,.int .i64]
def Act.OK (x:Act):Prop:=aS x.kind∧aS x.who∧aS x.to∧aS x.part∧aS x.at_∧aS x.sum∧aS x.day∧aS x.city∧aS x.form
theorem af1 {d:D}(h:DTy UD d):∃x:Act,d=gS x∧x.OK:=by
 obtain⟨ds,rfl,hs⟩:=h.agg_inv;obtain⟨d0,ds,rfl,h0,hs⟩:=hs.cons_inv;obtain⟨d1,ds,rfl,h1,hs⟩:=hs.cons_inv;obtain⟨d2,ds,rfl,h2,hs⟩:=hs.cons_inv;obtain⟨d3,ds,rfl,h3,hs⟩:=hs.cons_inv;obtain⟨d4,ds,rfl,h4,hs⟩:=hs.cons_inv;obtain⟨d5,ds,rfl,h5,hs⟩:=hs.cons_inv;obtain⟨d6,ds,rfl,h6,hs⟩:=hs.cons_inv;obtain⟨d7,ds,rfl,h7,hs⟩:=hs.cons_inv;obtain⟨d8,ds,rfl,h8,hs⟩:=hs.cons_inv;obtain rfl:=hs.nil_inv;obtain⟨n0,rfl,b0⟩:=h0.i64_inv;obtain⟨n1,rfl,b1⟩:=h1.i64_inv;obtain⟨n2,rfl,b2⟩:=h2.i64_inv;obtain⟨n3,rfl,b3⟩:=h3.i64_inv;obtain⟨n4,rfl,b4⟩:=h4.i64_inv;obtain⟨n5,rfl,b5⟩:=h5.i64_inv;obtain⟨n6,rfl,b6⟩:=h6.i64_inv;obtain⟨n7,rfl,b7⟩:=h7.i64_inv;obtain⟨n8,rfl,b8⟩:=h8.i64_inv;exact⟨⟨n0,n1,n2,n3,n4,n5,n6,n7,n8⟩,rfl,⟨b0,b1,b2,b3,b4,b5,b6,b7,b8⟩⟩
theorem af2 {d:D}(h:DTy (.slice UD) d):∃l:List Act,d=acts l∧l.length≤maxLen∧∀y,y∈l→Act.OK y:=by
 obtain⟨xs,rfl,hm,hx⟩:=h.slice_inv;obtain⟨l,rfl,hl⟩:=iQ (enc:=gS) (P:=Act.OK) fun x hh=>af1 (hx x hh);exact⟨l,rfl,by simpa using hm,hl⟩
structure Fact where
 kind:Int
 at_:Int
 n:Int
 deriving DecidableEq,Inhabited
def p8 (x:Fact):D:=.agg [.int x.kind,.int x.at_,.int x.n]
@[simp] theorem aBf (x:Fact):(p8 x).cells=[.int x.kind,.int x.at_,.int x.n]:=_root_.id rfl
@[simp] theorem aGe (x:Fact):D.agg [.int x.kind,.int x.at_,.int x.n]=p8 x:=_root_.id rfl
@[simp] theorem aBc (x:Fact):(p8 x).c 0=.int x.kind:=_root_.id rfl
@[simp] theorem aBd (x:Fact):(p8 x).c 1=.int x.at_:=_root_.id rfl
@[simp] theorem aBe (x:Fact):(p8 x).c 2=.int x.n:=_root_.id rfl
def facts (l:List Fact):D:=.list (l.map p8)
@[simp] theorem aEL (l:List Fact):(facts l).l=l.map p8:=_root_.id rfl
@[simp] theorem aEK (l:List Fact):(facts l).cells=[facts l]:=_root_.id rfl
abbrev UH:Ty:=.agg [.int .i64,.int .i64,.int .i64]
def Fact.OK (x:Fact):Prop:=aS x.kind∧aS x.at_∧aS x.n
theorem amU {d:D}(h:DTy UH d):∃x:Fact,d=p8 x∧x.OK:=by
 obtain⟨ds,rfl,hs⟩:=h.agg_inv;obtain⟨d0,ds,rfl,h0,hs⟩:=hs.cons_inv;obtain⟨d1,ds,rfl,h1,hs⟩:=hs.cons_inv;obtain⟨d2,ds,rfl,h2,hs⟩:=hs.cons_inv;obtain rfl:=hs.nil_inv;obtain⟨n0,rfl,b0⟩:=h0.i64_inv;obtain⟨n1,rfl,b1⟩:=h1.i64_inv;obtain⟨n2,rfl,b2⟩:=h2.i64_inv;exact⟨⟨n0,n1,n2⟩,rfl,⟨b0,b1,b2⟩⟩
theorem amV {d:D}(h:DTy (.slice UH) d):∃l:List Fact,d=facts l∧l.length≤maxLen∧∀y,y∈l→Fact.OK y:=by
 obtain⟨xs,rfl,hm,hx⟩:=h.slice_inv;obtain⟨l,rfl,hl⟩:=iQ (enc:=p8) (P:=Fact.OK) fun x hh=>amU (hx x hh);exact⟨l,rfl,by simpa using hm,hl⟩
structure File where
 bill:Bill
 signs:List Sign
 alters:List Alter
 acts:List Act
 facts:List Fact
 deriving Inhabited
def bU (x:File):D:=.agg [.int x.bill.drawer,.int x.bill.drawee,.int x.bill.payee,.int x.bill.sum,.int x.bill.currency,.int x.bill.tenor.kind,.int x.bill.tenor.n,.int x.bill.tenor.unit,.int x.bill.day,.int x.bill.city,.int x.bill.pay,.int x.bill.need,.int x.bill.rate,.int x.bill.flags,.int x.bill.parts,signs x.signs,alters x.alters,acts x.acts,facts x.facts]
@[simp] theorem aBq (x:File):(bU x).cells=[.int x.bill.drawer,.int x.bill.drawee,.int x.bill.payee,.int x.bill.sum,.int x.bill.currency,.int x.bill.tenor.kind,.int x.bill.tenor.n,.int x.bill.tenor.unit,.int x.bill.day,.int x.bill.city,.int x.bill.pay,.int x.bill.need,.int x.bill.rate,.int x.bill.flags,.int x.bill.parts,signs x.signs,alters x.alters,acts x.acts,facts x.facts]:=_root_.id rfl
@[simp] theorem aGf (x:File):D.agg [.int x.bill.drawer,.int x.bill.drawee,.int x.bill.payee,.int x.bill.sum,.int x.bill.currency,.int x.bill.tenor.kind,.int x.bill.tenor.n,.int x.bill.tenor.unit,.int x.bill.day,.int x.bill.city,.int x.bill.pay,.int x.bill.need,.int x.bill.rate,.int x.bill.flags,.int x.bill.parts,signs x.signs,alters x.alters,acts x.acts,facts x.facts]=bU x:=_root_.id rfl
@[simp] theorem aC6 (x:File):ga 19 (bU x)=bU x:=_root_.id rfl
@[simp] theorem aGD (x:File)(a0 a1 a2 a3 a4 a5 a6 a7 a8 a9 kS kT kU kV kW m9 na nf ng:D):D.agg (cK [a0,a1,a2,a3,a4,a5,a6,a7,a8,a9,kS,kT,kU,kV,kW,m9,na,nf,ng] 0 [.int x.bill.drawer,.int x.bill.drawee,.int x.bill.payee,.int x.bill.sum,.int x.bill.currency,.int x.bill.tenor.kind,.int x.bill.tenor.n,.int x.bill.tenor.unit,.int x.bill.day,.int x.bill.city,.int x.bill.pay,.int x.bill.need,.int x.bill.rate,.int x.bill.flags,.int x.bill.parts,signs x.signs,alters x.alters,acts x.acts,facts x.facts])=bU x:=_root_.id rfl
@[simp] theorem aBm (x:File):(bU x).c 3=.int x.bill.sum:=_root_.id rfl
@[simp] theorem aBn (x:File):(bU x).c 4=.int x.bill.currency:=_root_.id rfl
@[simp] theorem aBo (x:File):(bU x).c 5=.int x.bill.tenor.kind:=_root_.id rfl
@[simp] theorem aBp (x:File):(bU x).c 8=.int x.bill.day:=_root_.id rfl
@[simp] theorem aBg (x:File):(bU x).c 12=.int x.bill.rate:=_root_.id rfl
@[simp] theorem aBh (x:File):(bU x).c 14=.int x.bill.parts:=_root_.id rfl
@[simp] theorem aBi (x:File):(bU x).c 15=signs x.signs:=_root_.id rfl
@[simp] theorem aBj (x:File):(bU x).c 16=alters x.alters:=_root_.id rfl
@[simp] theorem aBk (x:File):(bU x).c 17=acts x.acts:=_root_.id rfl
@[simp] theorem aBl (x:File):(bU x).c 18=facts x.facts:=_root_.id rfl
abbrev azJ:Ty:=.agg [.int .i64,.int .i64,.int .i64,.int .i64,.int .i64,.int .i64,.int .i64,.int .i64,.int .i64,.int .i64,.int .i64,.int .i64,.int .i64,.int .i64,.int .i64,.slice UO,.slice UE,.slice UD,.slice UH]
def File.OK (x:File):Prop:=Bill.OK x.bill∧(x.signs.length≤maxLen∧∀y,y∈x.signs→Sign.OK y)∧(x.alters.length≤maxLen∧∀y,y∈x.alters→Alter.OK y)∧(x.acts.length≤maxLen∧∀y,y∈x.acts→Act.OK y)∧(x.facts.length≤maxLen∧∀y,y∈x.facts→Fact.OK y)
theorem amX {d:D}(h:DTy azJ d):∃x:File,d=bU x∧x.OK:=by
 obtain⟨ds,rfl,hs⟩:=h.agg_inv;obtain⟨d0,ds,rfl,h0,hs⟩:=hs.cons_inv;obtain⟨d1,ds,rfl,h1,hs⟩:=hs.cons_inv;obtain⟨d2,ds,rfl,h2,hs⟩:=hs.cons_inv;obtain⟨d3,ds,rfl,h3,hs⟩:=hs.cons_inv;obtain⟨d4,ds,rfl,h4,hs⟩:=hs.cons_inv;obtain⟨d5,ds,rfl,h5,hs⟩:=hs.cons_inv;obtain⟨d6,ds,rfl,h6,hs⟩:=hs.cons_inv;obtain⟨d7,ds,rfl,h7,hs⟩:=hs.cons_inv;obtain⟨d8,ds,rfl,h8,hs⟩:=hs.cons_inv;obtain⟨d9,ds,rfl,h9,hs⟩:=hs.cons_inv;obtain⟨d10,ds,rfl,gh,hs⟩:=hs.cons_inv;obtain⟨d11,ds,rfl,qj,hs⟩:=hs.cons_inv;obtain⟨d12,ds,rfl,AY,hs⟩:=hs.cons_inv;obtain⟨d13,ds,rfl,h13,hs⟩:=hs.cons_inv;obtain⟨d14,ds,rfl,h14,hs⟩:=hs.cons_inv;obtain⟨d15,ds,rfl,F4,hs⟩:=hs.cons_inv;obtain⟨d16,ds,rfl,F5,hs⟩:=hs.cons_inv;obtain⟨d17,ds,rfl,F6,hs⟩:=hs.cons_inv;obtain⟨d18,ds,rfl,F7,hs⟩:=hs.cons_inv;obtain rfl:=hs.nil_inv;obtain⟨n0,rfl,b0⟩:=h0.i64_inv;obtain⟨n1,rfl,b1⟩:=h1.i64_inv;obtain⟨n2,rfl,b2⟩:=h2.i64_inv;obtain⟨n3,rfl,b3⟩:=h3.i64_inv;obtain⟨n4,rfl,b4⟩:=h4.i64_inv;obtain⟨n5,rfl,b5⟩:=h5.i64_inv;obtain⟨n6,rfl,b6⟩:=h6.i64_inv;obtain⟨n7,rfl,b7⟩:=h7.i64_inv;obtain⟨n8,rfl,b8⟩:=h8.i64_inv;obtain⟨n9,rfl,b9⟩:=h9.i64_inv;obtain⟨n10,rfl,b10⟩:=gh.i64_inv;obtain⟨n11,rfl,b11⟩:=qj.i64_inv;obtain⟨n12,rfl,b12⟩:=AY.i64_inv;obtain⟨n13,rfl,b13⟩:=h13.i64_inv;obtain⟨n14,rfl,b14⟩:=h14.i64_inv;obtain⟨n15,rfl,b15,c15⟩:=axc F4;obtain⟨n16,rfl,b16,c16⟩:=af9 F5;obtain⟨n17,rfl,b17,c17⟩:=af2 F6;obtain⟨n18,rfl,b18,c18⟩:=amV F7;exact⟨⟨⟨n0,n1,n2,n3,n4,⟨n5,n6,n7⟩,n8,n9,n10,n11,n12,n13,n14⟩,n15,n16,n17,n18⟩,rfl,⟨⟨b0,b1,b2,b3,b4,⟨b5,b6,b7⟩,b8,b9,b10,b11,b12,b13,b14⟩,⟨b15,c15⟩,⟨b16,c16⟩,⟨b17,c17⟩,⟨b18,c18⟩⟩⟩
structure Case where
 file:File
 sign:Int
 holder:Int
 defence:Int
 due:Int
 day:Int
 deriving Inhabited
def ew (x:Case):D:=.agg [.int x.file.bill.drawer,.int x.file.bill.drawee,.int x.file.bill.payee,.int x.file.bill.sum,.int x.file.bill.currency,.int x.file.bill.tenor.kind,.int x.file.bill.tenor.n,.int x.file.bill.tenor.unit,.int x.file.bill.day,.int x.file.bill.city,.int x.file.bill.pay,.int x.file.bill.need,.int x.file.bill.rate,.int x.file.bill.flags,.int x.file.bill.parts,signs x.file.signs,alters x.file.alters,acts x.file.acts,facts x.file.facts,.int x.sign,.int x.holder,.int x.defence,.int x.due,.int x.day]
@[simp] theorem aAW (x:Case):(ew x).cells=[.int x.file.bill.drawer,.int x.file.bill.drawee,.int x.file.bill.payee,.int x.file.bill.sum,.int x.file.bill.currency,.int x.file.bill.tenor.kind,.int x.file.bill.tenor.n,.int x.file.bill.tenor.unit,.int x.file.bill.day,.int x.file.bill.city,.int x.file.bill.pay,.int x.file.bill.need,.int x.file.bill.rate,.int x.file.bill.flags,.int x.file.bill.parts,signs x.file.signs,alters x.file.alters,acts x.file.acts,facts x.file.facts,.int x.sign,.int x.holder,.int x.defence,.int x.due,.int x.day]:=_root_.id rfl
@[simp] theorem aF9 (x:Case):D.agg [.int x.file.bill.drawer,.int x.file.bill.drawee,.int x.file.bill.payee,.int x.file.bill.sum,.int x.file.bill.currency,.int x.file.bill.tenor.kind,.int x.file.bill.tenor.n,.int x.file.bill.tenor.unit,.int x.file.bill.day,.int x.file.bill.city,.int x.file.bill.pay,.int x.file.bill.need,.int x.file.bill.rate,.int x.file.bill.flags,.int x.file.bill.parts,signs x.file.signs,alters x.file.alters,acts x.file.acts,facts x.file.facts,.int x.sign,.int x.holder,.int x.defence,.int x.due,.int x.day]=ew x:=_root_.id rfl
@[simp] theorem af7 (x:Case):ga 24 (ew x)=ew x:=_root_.id rfl
@[simp] theorem avD (x:Case)(a0 a1 a2 a3 a4 a5 a6 a7 a8 a9 kS kT kU kV kW m9 na nf ng y1 y2 y3 y4 y5:D):D.agg (cK [a0,a1,a2,a3,a4,a5,a6,a7,a8,a9,kS,kT,kU,kV,kW,m9,na,nf,ng,y1,y2,y3,y4,y5] 0 [.int x.file.bill.drawer,.int x.file.bill.drawee,.int x.file.bill.payee,.int x.file.bill.sum,.int x.file.bill.currency,.int x.file.bill.tenor.kind,.int x.file.bill.tenor.n,.int x.file.bill.tenor.unit,.int x.file.bill.day,.int x.file.bill.city,.int x.file.bill.pay,.int x.file.bill.need,.int x.file.bill.rate,.int x.file.bill.flags,.int x.file.bill.parts,signs x.file.signs,alters x.file.alters,acts x.file.acts,facts x.file.facts,.int x.sign,.int x.holder,.int x.defence,.int x.due,.int x.day])=ew x:=_root_.id rfl
@[simp] theorem aAV (x:Case):(ew x).c 9=.int x.file.bill.city:=_root_.id rfl
@[simp] theorem aAO (x:Case):(ew x).c 10=.int x.file.bill.pay:=_root_.id rfl
@[simp] theorem aAP (x:Case):(ew x).c 15=signs x.file.signs:=_root_.id rfl
@[simp] theorem aAQ (x:Case):(ew x).c 19=.int x.sign:=_root_.id rfl
@[simp] theorem aAR (x:Case):(ew x).c 20=.int x.holder:=_root_.id rfl
@[simp] theorem aAS (x:Case):(ew x).c 21=.int x.defence:=_root_.id rfl
@[simp] theorem aAT (x:Case):(ew x).c 22=.int x.due:=_root_.id rfl
@[simp] theorem aAU (x:Case):(ew x).c 23=.int x.day:=_root_.id rfl
def cases(l:List Case):D:=.list (l.map ew)
structure Cell where
 known:Bool
 n:Int
 deriving DecidableEq,Inhabited
def cC (x:Cell):D:=.agg [.bool x.known,.int x.n]
@[simp] theorem aAZ (x:Cell):(cC x).cells=[.bool x.known,.int x.n]:=_root_.id rfl
@[simp] theorem aGa (x:Cell):D.agg [.bool x.known,.int x.n]=cC x:=_root_.id rfl
@[simp] theorem aAX (x:Cell):(cC x).c 0=.bool x.known:=_root_.id rfl
@[simp] theorem aAY (x:Cell):(cC x).c 1=.int x.n:=_root_.id rfl
def cells (l:List Cell):D:=.list (l.map cC)
@[simp] theorem aDw (l:List Cell):(cells l).l=l.map cC:=_root_.id rfl
@[simp] theorem aDv (l:List Cell):(cells l).cells=[cells l]:=_root_.id rfl
structure Said where
 cell:Cell
 order:Int
 path:List Int
 err:Int
 deriving Inhabited
def mi (x:Said):D:=.agg [.bool x.cell.known,.int x.cell.n,.int x.order,ints x.path,.int x.err]
@[simp] theorem aB5 (x:Said):(mi x).cells=[.bool x.cell.known,.int x.cell.n,.int x.order,ints x.path,.int x.err]:=_root_.id rfl
@[simp] theorem aGo (x:Said):D.agg [.bool x.cell.known,.int x.cell.n,.int x.order,ints x.path,.int x.err]=mi x:=_root_.id rfl
@[simp] theorem aDa (x:Said):ga 5 (mi x)=mi x:=_root_.id rfl
structure Effect where
 sign:Int
 kind:Int
 firm:Int
 binds:Int
 text:Int
 sum:Int
 recourse:Bool
 deriving DecidableEq,Inhabited
def tS (x:Effect):D:=.agg [.int x.sign,.int x.kind,.int x.firm,.int x.binds,.int x.text,.int x.sum,.bool x.recourse]
@[simp] theorem aBb (x:Effect):(tS x).cells=[.int x.sign,.int x.kind,.int x.firm,.int x.binds,.int x.text,.int x.sum,.bool x.recourse]:=_root_.id rfl
@[simp] theorem aGd (x:Effect):D.agg [.int x.sign,.int x.kind,.int x.firm,.int x.binds,.int x.text,.int x.sum,.bool x.recourse]=tS x:=_root_.id rfl
@[simp] theorem aC5 (x:Effect):ga 7 (tS x)=tS x:=_root_.id rfl
@[simp] theorem aBa (x:Effect):(tS x).c 5=.int x.sum:=_root_.id rfl
@[simp] theorem aHl (a0 x0:D):cK [a0] 0 [x0]=[x0]:=_root_.id rfl
@[simp] theorem aHm (a0 a1 x0 x1:D):cK [a0,a1] 0 [x0,x1]=[x0,x1]:=_root_.id rfl
@[simp] theorem aHn (a0 a1 a2 x0 x1 x2:D):cK [a0,a1,a2] 0 [x0,x1,x2]=[x0,x1,x2]:=_root_.id rfl
@[simp] theorem aHo (a0 a1 a2 a3 x0 x1 x2 x3:D):cK [a0,a1,a2,a3] 0 [x0,x1,x2,x3]=[x0,x1,x2,x3]:=_root_.id rfl
@[simp] theorem aHp (a0 a1 a2 a3 a4 x0 x1 x2 x3 x4:D):cK [a0,a1,a2,a3,a4] 0 [x0,x1,x2,x3,x4]=[x0,x1,x2,x3,x4]:=_root_.id rfl
@[simp] theorem aHq (a0 a1 a2 a3 a4 a5 x0 x1 x2 x3 x4 x5:D):cK [a0,a1,a2,a3,a4,a5] 0 [x0,x1,x2,x3,x4,x5]=[x0,x1,x2,x3,x4,x5]:=_root_.id rfl
@[simp] theorem aHr (a0 a1 a2 a3 a4 a5 a6 x0 x1 x2 x3 x4 x5 x6:D):cK [a0,a1,a2,a3,a4,a5,a6] 0 [x0,x1,x2,x3,x4,x5,x6]=[x0,x1,x2,x3,x4,x5,x6]:=_root_.id rfl
@[simp] theorem aHs (a0 a1 a2 a3 a4 a5 a6 a7 a8 x0 x1 x2 x3 x4 x5 x6 x7 x8:D):cK [a0,a1,a2,a3,a4,a5,a6,a7,a8] 0 [x0,x1,x2,x3,x4,x5,x6,x7,x8]=[x0,x1,x2,x3,x4,x5,x6,x7,x8]:=_root_.id rfl
end Rm
set_option maxRecDepth 100000
namespace Rm
open Go Go.Proofs Cx
abbrev I:Ty:=.int .i64
abbrev Y0:Ty:=.agg [.str,I,I,(.slice I),(.slice I),(.slice I)]
abbrev Y1:Ty:=.agg [I]
abbrev Y2:Ty:=.agg [.str,I,I]
abbrev Y3:Ty:=.agg [I,I,.bool]
abbrev Y4:Ty:=.agg [I,I,I,(.slice .trm)]
abbrev Y5:Ty:=.agg [.str,.bool,(.slice Y3),(.slice Y4)]
abbrev Y6:Ty:=.agg [I,I,I]
abbrev Y7:Ty:=.agg [I,I,I,I,I]
abbrev Y8:Ty:=.agg [(.slice .str),(.slice Y0),(.slice Y1),(.slice Y2),(.slice Y5),(.slice Y6),(.slice Y7),(.slice Y6)]
abbrev Y9:Ty:=.agg [I,I,I,I,I,I,I,I,I]
abbrev j9:Ty:=.agg [I,I]
abbrev eh:Ty:=.agg [I,I,I,I,I,I,I,I,I,I,I,I,I,I,I,(.slice Y9),(.slice j9),(.slice Y9),(.slice Y6)]
abbrev oz:Ty:=.agg [I,I,I,I,I,I,I,I,I,I,I,I,I,I,I,(.slice Y9),(.slice j9),(.slice Y9),(.slice Y6),I,I,I,I,I]
abbrev yZ:Ty:=.agg [.bool,I,I,(.slice I),I]
abbrev jK:Ty:=.agg [.bool,I]
abbrev U6:Ty:=.agg [I,I,I,I,I,I,I]
abbrev y0:Ty:=.agg [I,I,I,I,I,I,I,I,I,I,I,I,I,I,I]
abbrev pW:Ty:=.agg [I,I,(.slice .trm)]
abbrev U7:Ty:=.agg [I,I,I,I,I,I,.bool]
abbrev U8:Ty:=.agg [(.slice jK)]
abbrev DT:Ty:=.agg [(.slice .str),(.slice Y0),(.slice Y1),(.slice Y2),(.slice Y5),(.slice Y6),(.slice Y7),(.slice Y6),I,I,I,I,I,I,I,I,I,I,I,I,I,I,I,I,I,(.slice Y9),(.slice j9),(.slice Y9),(.slice Y6),I,I]
abbrev U9:Ty:=.agg [(.int .u64),(.int .u64)]
abbrev Y22:Ty:=.agg [(.slice I),I]
def af:List (Nat×Sig):=[
 (9,⟨[Y8,I,eh,I,I,I],.bool,.dat⟩),
 (21,⟨[Y8,eh],I,.dat⟩),
 (24,⟨[Y8,I,I,oz],yZ,.dat⟩),
 (26,⟨[eh,I],eh,.dat⟩),
 (27,⟨[Y8,oz],(.slice jK),.dat⟩),
 (28,⟨[Y8,I],I,.dat⟩),
 (29,⟨[Y8,I,I,(.slice I)],(.tup [(.slice I),I]),.dat⟩),
 (31,⟨[Y5,I,(.slice jK)],(.tup [jK,I]),.dat⟩),
 (34,⟨[Y8,I,eh,I],I,.dat⟩),
 (39,⟨[yZ],I,.dat⟩),
 (40,⟨[],.bool,.dat⟩),
 (41,⟨[Y8,eh],.bool,.dat⟩),
 (42,⟨[Y8,I,eh,I,I],U6,.dat⟩),
 (44,⟨[yZ],I,.dat⟩),
 (46,⟨[Y8,I,I,eh,I],yZ,.dat⟩),
 (50,⟨[Y8,eh],.bool,.dat⟩),
 (51,⟨[Y8],I,.dat⟩),
 (52,⟨[eh],.bool,.dat⟩),
 (61,⟨[(.slice I)],I,.dat⟩),
 (62,⟨[I,I],I,.dat⟩),
 (64,⟨[Y8,y0],I,.dat⟩),
 (65,⟨[Y8,eh,I],I,.dat⟩),
 (66,⟨[I,I,I],.bool,.dat⟩),
 (67,⟨[Y8,eh],I,.dat⟩),
 (68,⟨[eh],I,.dat⟩),
 (74,⟨[Y8,I,I,oz],(.tup [yZ,(.slice jK)]),.dat⟩),
 (75,⟨[Y8,oz],(.tup [oz,(.slice jK)]),.dat⟩),
 (76,⟨[Y8,I,oz],(.nsl I),.dat⟩),
 (77,⟨[I,I],.bool,.dat⟩),
 (78,⟨[(.slice j9),(.fn [j9] .bool)],.bool,.dat⟩),
 (79,⟨[j9,(.ref oz)],.bool,.dat⟩),
 (80,⟨[.bool],jK,.dat⟩),
 (81,⟨[eh,I,I],jK,.dat⟩),
 (82,⟨[I,I],.bool,.dat⟩),
 (83,⟨[Y8,I,I,(.slice I)],.bool,.dat⟩),
 (84,⟨[Y8,I,I,(.slice I)],(.tup [I,.bool]),.dat⟩),
 (85,⟨[(.slice I),I],.bool,.dat⟩),
 (86,⟨[Y5,I],(.tup [pW,I]),.dat⟩),
 (87,⟨[pW,(.slice jK)],jK,.dat⟩),
 (88,⟨[I],(.tup [I,.bool]),.dat⟩),
 (91,⟨[Y8,y0,I,I],(.tup [I,I]),.dat⟩),
 (92,⟨[eh],I,.dat⟩),
 (104,⟨[I,I],(.tup [Y8,eh]),.dat⟩),
 (105,⟨[Y8,I,I,I],(.tup [j9,.bool]),.dat⟩),
 (106,⟨[I,I,I,U6],.bool,.dat⟩),
 (107,⟨[Y8,I,eh,I,I],(.tup [U7,.bool]),.dat⟩),
 (108,⟨[I,I,I,I],I,.dat⟩),
 (109,⟨[Y8,y0,I,I,I,I],I,.dat⟩),
 (111,⟨[I],.bool,.dat⟩),
 (112,⟨[Y0,I],.bool,.dat⟩),
 (113,⟨[Y8],.bool,.dat⟩),
 (114,⟨[eh],.bool,.dat⟩),
 (115,⟨[Y5],.bool,.dat⟩),
 (116,⟨[Y8],(.tup [(.slice .str),(.slice .str),(.slice .str)]),.dat⟩),
 (117,⟨[(.slice .str),I,(.fn [I] .bool)],I,.dat⟩),
 (118,⟨[I],.bool,.dat⟩),
 (119,⟨[I,(.ref Y8)],.bool,.dat⟩),
 (120,⟨[Y8,Y0],.bool,.dat⟩),
 (121,⟨[I,(.ref Y8)],.bool,.dat⟩),
 (122,⟨[I,(.ref Y8)],.bool,.dat⟩),
 (123,⟨[Y5],.bool,.dat⟩),
 (124,⟨[Y8],I,.dat⟩),
 (125,⟨[Y8],I,.dat⟩),
 (127,⟨[I],.bool,.dat⟩),
 (130,⟨[I,I],.bool,.dat⟩),
 (131,⟨[y0],.bool,.dat⟩),
 (132,⟨[Y8,I,I],(.tup [I,I]),.dat⟩),
 (133,⟨[Y8,eh,I],.bool,.dat⟩),
 (134,⟨[Y8,eh,Y9],.bool,.dat⟩),
 (141,⟨[(.slice j9),(.fn [j9] .bool)],I,.dat⟩),
 (142,⟨[(.slice I),(.fn [I] .bool)],.bool,.dat⟩),
 (143,⟨[I,(.ref I)],.bool,.dat⟩),
 (144,⟨[(.slice I),I],I,.dat⟩),
 (145,⟨[(.slice Y4),(.fn [Y4] .bool)],I,.dat⟩),
 (146,⟨[Y4,(.ref I)],.bool,.dat⟩),
 (147,⟨[pW],(.tup [I,I]),.dat⟩),
 (148,⟨[U8,pW],(.tup [jK,(.slice I)]),.dat⟩),
 (149,⟨[Y8,I],.bool,.dat⟩),
 (150,⟨[I],.bool,.dat⟩),
 (151,⟨[Y6],.bool,.dat⟩),
 (152,⟨[Y8,y0,I],(.tup [I,I]),.dat⟩),
 (153,⟨[Y8,I,I],(.tup [I,I]),.dat⟩),
 (154,⟨[(.slice I)],I,.dat⟩),
 (172,⟨[(.slice Y7),I,I,I],I,.dat⟩),
 (173,⟨[I,I],(.tup [j9,I]),.dat⟩),
 (174,⟨[Y8,I,eh,I],DT,.dat⟩),
 (175,⟨[DT,I],U7,.dat⟩),
 (176,⟨[I,I,I,I,I],(.tup [I,I]),.dat⟩),
 (177,⟨[I,j9,j9],I,.dat⟩),
 (179,⟨[I],(.tup [I,I,I]),.dat⟩),
 (180,⟨[pW],.bool,.dat⟩),
 (181,⟨[(.slice .str),I],I,.dat⟩),
 (182,⟨[(.slice I),I,I],.bool,.dat⟩),
 (184,⟨[eh,I,(.slice I)],.bool,.dat⟩),
 (185,⟨[eh,I,I],.bool,.dat⟩),
 (191,⟨[(.slice I),(.fn [I] .bool)],I,.dat⟩),
 (192,⟨[pW,I],I,.dat⟩),
 (193,⟨[pW],(.tup [I,I]),.dat⟩),
 (194,⟨[U8,I],jK,.dat⟩),
 (195,⟨[I,(.slice jK)],jK,.dat⟩),
 (196,⟨[(.slice (.slice I))],(.slice I),.dat⟩),
 (197,⟨[I,Y6],(.tup [I,I]),.dat⟩),
 (198,⟨[Y8,I,I],I,.dat⟩),
 (199,⟨[Y0,I],(.tup [I,I]),.dat⟩),
 (215,⟨[I],(.int .u64),.dat⟩),
 (216,⟨[(.int .u64),(.int .u64)],(.int .u64),.dat⟩),
 (217,⟨[.bool,U9,U9],(.tup [j9,I]),.dat⟩),
 (218,⟨[eh,I,I],.bool,.dat⟩),
 (219,⟨[(.slice I)],I,.dat⟩),
 (220,⟨[DT,I,I],I,.dat⟩),
 (221,⟨[DT,I],(.tup [I,I]),.dat⟩),
 (222,⟨[I,I],.bool,.dat⟩),
 (223,⟨[I,I,I],(.tup [I,I,.bool]),.dat⟩),
 (224,⟨[(.int .u64),(.int .u64)],(.tup [(.int .u64),(.int .u64)]),.dat⟩),
 (225,⟨[(.int .u64),(.int .u64),(.int .u64)],(.tup [(.int .u64),(.int .u64)]),.dat⟩),
 (226,⟨[pW,I,I],I,.dat⟩),
 (227,⟨[.str],.bool,.dat⟩),
 (228,⟨[(.slice .str),.str],.bool,.dat⟩),
 (235,⟨[pW],(.tup [I,I]),.dat⟩),
 (236,⟨[I],Y22,.dat⟩),
 (237,⟨[I],(.tup [I,.bool]),.dat⟩),
 (238,⟨[.bool],jK,.dat⟩),
 (239,⟨[I],I,.dat⟩),
 (240,⟨[I,I,I],I,.dat⟩),
 (241,⟨[.nils .bool,I],(.slice I),(.row 3 I)⟩),
 (242,⟨[I,I],(.tup [I,I]),.dat⟩),
 (243,⟨[Y0,I,I],(.fn [(.fn [I] .bool)] (.tup [])),.dat⟩),
 (254,⟨[eh,I],(.map I .bool),.dat⟩),
 (255,⟨[eh,I],I,.dat⟩),
 (256,⟨[(.int .u64)],I,.dat⟩),
 (257,⟨[(.slice .str),.str],I,.dat⟩),
 (261,⟨[I,I],I,.dat⟩),
 (262,⟨[I,I,I],(.tup [I,I]),.dat⟩),
 (263,⟨[I,I],I,.dat⟩),
 (272,⟨[(.int .u64)],I,.dat⟩),
 (283,⟨[I,I,I],I,.dat⟩)]
def MT:List (Nat×CSig):=[
 (79,⟨[(.ref oz)],[j9],.bool⟩),
 (118,⟨[],[I],.bool⟩),
 (119,⟨[(.ref Y8)],[I],.bool⟩),
 (121,⟨[(.ref Y8)],[I],.bool⟩),
 (122,⟨[(.ref Y8)],[I],.bool⟩),
 (143,⟨[(.ref I)],[I],.bool⟩),
 (146,⟨[(.ref I)],[Y4],.bool⟩),
 (264,⟨[(.ref I),(.ref I),(.ref Y0)],[(.fn [I] .bool)],(.tup [])⟩)]
abbrev Z4:Nat:=9
abbrev aaf:Nat:=21
abbrev PF:Nat:=24
abbrev aaJ:Nat:=26
abbrev aaM:Nat:=27
abbrev aay:Nat:=28
abbrev Z1:Nat:=29
abbrev aac:Nat:=31
abbrev ZB:Nat:=34
abbrev ZD:Nat:=39
abbrev Z7:Nat:=40
abbrev Z6:Nat:=41
abbrev PD:Nat:=42
abbrev ZC:Nat:=44
abbrev ZA:Nat:=46
abbrev aat:Nat:=50
abbrev aax:Nat:=51
abbrev PL:Nat:=52
abbrev ZZ:Nat:=61
abbrev ZY:Nat:=62
abbrev abj:Nat:=64
abbrev aam:Nat:=65
abbrev Ca:Nat:=66
abbrev aai:Nat:=67
abbrev aak:Nat:=68
abbrev ZE:Nat:=74
abbrev ZF:Nat:=75
abbrev auJ:Nat:=76
abbrev aaP:Nat:=77
abbrev aaR:Nat:=78
abbrev aaN:Nat:=79
abbrev aaO:Nat:=80
abbrev aaK:Nat:=81
abbrev aaB:Nat:=82
abbrev Z3:Nat:=83
abbrev Z2:Nat:=84
abbrev aaT:Nat:=85
abbrev aae:Nat:=86
abbrev aa5:Nat:=87
abbrev aad:Nat:=88
abbrev Cb:Nat:=91
abbrev aaL:Nat:=92
abbrev Z5:Nat:=104
abbrev Zv:Nat:=105
abbrev Z8:Nat:=106
abbrev ZG:Nat:=107
abbrev Zx:Nat:=108
abbrev Zw:Nat:=109
abbrev ZX:Nat:=111
abbrev ZW:Nat:=112
abbrev aao:Nat:=113
abbrev aap:Nat:=114
abbrev aas:Nat:=115
abbrev aaE:Nat:=116
abbrev aaA:Nat:=117
abbrev PN:Nat:=118
abbrev PO:Nat:=119
abbrev aaz:Nat:=120
abbrev PQ:Nat:=121
abbrev PR:Nat:=122
abbrev aaF:Nat:=123
abbrev aaI:Nat:=124
abbrev aaG:Nat:=125
abbrev Z0:Nat:=127
abbrev abk:Nat:=130
abbrev abl:Nat:=131
abbrev Hm:Nat:=132
abbrev aal:Nat:=133
abbrev aah:Nat:=134
abbrev aaV:Nat:=141
abbrev aaS:Nat:=142
abbrev PJ:Nat:=143
abbrev aaY:Nat:=144
abbrev aaW:Nat:=145
abbrev PK:Nat:=146
abbrev aa4:Nat:=147
abbrev PU:Nat:=148
abbrev aa2:Nat:=149
abbrev Hn:Nat:=150
abbrev aa1:Nat:=151
abbrev xG:Nat:=152
abbrev Ho:Nat:=153
abbrev aa0:Nat:=154
abbrev Zz:Nat:=172
abbrev PM:Nat:=173
abbrev ZH:Nat:=174
abbrev ZI:Nat:=175
abbrev Z9:Nat:=176
abbrev Zy:Nat:=177
abbrev ZS:Nat:=179
abbrev aaq:Nat:=180
abbrev aaD:Nat:=181
abbrev aaH:Nat:=182
abbrev aaj:Nat:=184
abbrev aan:Nat:=185
abbrev aaX:Nat:=191
abbrev abd:Nat:=192
abbrev aa8:Nat:=193
abbrev abc:Nat:=194
abbrev aa9:Nat:=195
abbrev aaQ:Nat:=196
abbrev PS:Nat:=197
abbrev aa3:Nat:=198
abbrev ZR:Nat:=199
abbrev aau:Nat:=215
abbrev aav:Nat:=216
abbrev aaw:Nat:=217
abbrev abh:Nat:=218
abbrev PG:Nat:=219
abbrev ZJ:Nat:=220
abbrev ZK:Nat:=221
abbrev aab:Nat:=222
abbrev aaa:Nat:=223
abbrev ZO:Nat:=224
abbrev ZL:Nat:=225
abbrev aar:Nat:=226
abbrev aaC:Nat:=227
abbrev aaU:Nat:=228
abbrev abb:Nat:=235
abbrev abf:Nat:=236
abbrev aa6:Nat:=237
abbrev abg:Nat:=238
abbrev aba:Nat:=239
abbrev aa7:Nat:=240
abbrev ZP:Nat:=242
abbrev ZT:Nat:=243
abbrev abi:Nat:=254
abbrev aag:Nat:=255
abbrev ZM:Nat:=256
abbrev aaZ:Nat:=257
abbrev abe:Nat:=261
abbrev ZQ:Nat:=262
abbrev ZV:Nat:=263
abbrev ZU:Nat:=264
abbrev ZN:Nat:=272
abbrev PH:Nat:=283
noncomputable def ctx:Ctx:={P:=Tryz.prog,cap:=ab MT,sig:=ab af,auz:=fun _=>none,glob:=Sn 0 [6,7,10,12,13,14,15,16,20,21]}
abbrev vm:PE:=.ai .quo .i64 (bG (aJ (bG (.ai .rem .i64 (aJ r0 (pi 730425)) (pi 146097)) (.ai .quo .i64 (.ai .rem .i64 (aJ r0 (pi 730425)) (pi 146097)) (pi 1460))) (.ai .quo .i64 (.ai .rem .i64 (aJ r0 (pi 730425)) (pi 146097)) (pi 36524))) (.ai .quo .i64 (.ai .rem .i64 (aJ r0 (pi 730425)) (pi 146097)) (pi 146096))) (pi 365)
abbrev iX:PE:=.con (.v (.string ⟨#[0,1,2,2,3,3,3,3,4,4,4,4,4,4,4,4,5,5,5,5,5,5,5,5,5,5,5,5,5,5,5,5,6,6,6,6,6,6,6,6,6,6,6,6,6,6,6,6,6,6,6,6,6,6,6,6,6,6,6,6,6,6,6,6,7,7,7,7,7,7,7,7,7,7,7,7,7,7,7,7,7,7,7,7,7,7,7,7,7,7,7,7,7,7,7,7,7,7,7,7,7,7,7,7,7,7,7,7,7,7,7,7,7,7,7,7,7,7,7,7,7,7,7,7,7,7,7,7,8,8,8,8,8,8,8,8,8,8,8,8,8,8,8,8,8,8,8,8,8,8,8,8,8,8,8,8,8,8,8,8,8,8,8,8,8,8,8,8,8,8,8,8,8,8,8,8,8,8,8,8,8,8,8,8,8,8,8,8,8,8,8,8,8,8,8,8,8,8,8,8,8,8,8,8,8,8,8,8,8,8,8,8,8,8,8,8,8,8,8,8,8,8,8,8,8,8,8,8,8,8,8,8,8,8,8,8,8,8,8,8,8,8,8,8,8,8,8,8,8,8,8,8,8,8,8,8]⟩))
abbrev jW:PE:=.setc (.setc (.setc (.con (.agg [(.int 0),(.int 0),(.int 0),(.int 0),(.int 0),(.int 0),(.int 0),(.int 0),(.int 0),(.int 0),(.int 0),(.int 0),(.int 0),(.int 0),(.int 0),(.list []),(.list []),(.list []),(.list [])])) 0 (.mk [(.mk [(pi 0),(pi 1),(pi 1),(pi 1000),(pi 0),(.mk [(pi 3),(pi 100),(pi 0)]),(pi 10),(pi 0),(pi 0),(pi (-1)),(pi 60),(pi 0),(pi 1)]),pL,pL,pL,pL])) 15 pN) 17 pN
abbrev kC:PE:=.setc (.setc (.con (.agg [(.list []),(.list []),(.list []),(.list []),(.list []),(.list []),(.list []),(.list [])])) 0 (av 8 o6)) 6 pL
abbrev nW:PE:=.con (.agg [(.int 0),(.int 0),(.int 0),(.int 0),(.int 0),(.int 0),(.int 0),(.int 0),(.int 0),(.int 0),(.int 0),(.int 0),(.int 0),(.int 0),(.int 0),(.list []),(.list []),(.list []),(.list [])])
abbrev vu:PE:=.ai .or .u64 (.ai .shl .u64 r0 (.conv .u64 mU)) (.ai .shr .u64 r1 (.ai .sub .u64 (.con (.v (.int .u64 64))) (.conv .u64 mU)))
abbrev fe:PE:=.con (.agg [(.bool false),(.int 0)])
abbrev KB:PE:=.setc (.setc (.setc (.con (.agg [(.list []),(.list []),(.list []),(.list []),(.list []),(.list []),(.list []),(.list [])])) 0 (.mk [(.lst [(.con (.v (.string ⟨#[102,114,97,110,99]⟩))),(.con (.v (.string ⟨#[112,111,117,110,100]⟩)))]),(.lst [(.mk [(.con (.v (.string ⟨#[76,121,111,110]⟩))),(pi 0),(pi 0),pL,pL,pL]),(.mk [(.con (.v (.string ⟨#[76,111,110,100,111,110]⟩))),(pi 0),(pi 1),pL,pL,pL])]),(.lst [(.mk [(pi 0)])]),(.lst [(.mk [(.con (.v (.string ⟨#[65]⟩))),(pi 1),(pi 0)]),(.mk [(.con (.v (.string ⟨#[66]⟩))),(pi 0),(pi 0)])]),pL,pL,pL,pL])) 4 pN) 6 pN
abbrev pC:PE:=.ai .sub .u64 (.ai .add .u64 (.ai .mul .u64 br (.con (.v (.int .u64 4294967296)))) db) (.ai .mul .u64 cJ r2)
abbrev nU:PE:=.ai .shr .u64 (.ai .shl .u64 r2 (.conv .u64 mU)) (.con (.v (.int .u64 32)))
abbrev Kd:PE:=.ai .quo .i64 (aJ (.ai .mul .i64 (pi 5) (bG (.ai .rem .i64 (aJ r0 (pi 730425)) (pi 146097)) (bG (aJ (.ai .mul .i64 (pi 365) vm) (.ai .quo .i64 vm (pi 4))) (.ai .quo .i64 vm (pi 100))))) (pi 2)) (pi 153)
abbrev pB:PE:=.deref (.con (.ref (.agg [(.int 6),(.int 7),(.int 10),(.int 12),(.int 13),(.int 14),(.int 15),(.int 16),(.int 20),(.int 21)])))
abbrev jC:PE:=.setc z3 0 (.mk [(pc (.mk [r0]) 5),(pc (.mk [r0]) 6),(pc (.mk [r0]) 7)])
abbrev Kk:PE:=.put (.put (.put (.put (.con (.map [])) (pi 7) (aO (.ai .and .i64 (pc o6 13) (pi 1)) (pi 0))) (pi 8) (ao (pc o6 2) (pi (-1)))) (pi 9) (aO (.ai .and .i64 (pc o6 13) (pi 4)) (pi 0))) (pi 10) (aO (.ai .and .i64 (pc o6 13) (pi 2)) (pi 0))
abbrev iW:PE:=.con (.v (.int .u64 4294967296))
abbrev QT:PE:=.mk [(pc (.mk [r0]) 10),(pc (.mk [r0]) 11),(pc (.mk [r0]) 12),(pc (.mk [r0]) 13),(pc (.mk [r0]) 14),(pc (.mk [r0]) 15),(pc (.mk [r0]) 16),(pc (.mk [r0]) 17),(pc (.mk [r0]) 18),(pc (.mk [r0]) 19),(pc (.mk [r0]) 20),(pc (.mk [r0]) 21),(pc (.mk [r0]) 22),(pc (.mk [r0]) 23),(pc (.mk [r0]) 24),(pc (.mk [r0]) 25),(pc (.mk [r0]) 26),(pc (.mk [r0]) 27),(pc (.mk [r0]) 28)]
abbrev sB:PE:=.con (.v (.int .u64 32))
abbrev kB:PE:=.con (.agg [(.int 0),(.int 0),(.list [])])
abbrev QU:PE:=.con (.agg [(.list []),(.list []),(.list []),(.list []),(.list []),(.list []),(.list []),(.list []),(.int 0),(.int 0),(.int 0),(.int 0),(.int 0),(.int 0),(.int 0),(.int 0),(.int 0),(.int 0),(.int 0),(.int 0),(.int 0),(.int 0),(.int 0),(.int 0),(.int 0),(.list []),(.list []),(.list []),(.list []),(.int 0),(.int 0)])
abbrev Kl:PE:=.pick (.pick (.pick (.pick db (ao (pc (.setc z7 0 yt) 3) (pi 0)) pF) (ao (pc (.setc z7 0 yt) 0) (pc iU 0)) pF) (ao (pc (.setc z7 0 yt) 1) (pc iU 1)) pF) (ao (pc (.setc z7 0 yt) 2) (pc iU 2)) pF
abbrev jV:PE:=.con (.agg [(.list []),(.int 0)])
abbrev QV:PE:=.con (.agg [(.int 0),(.int 0),(.int 0),(.int 0),(.int 0),(.int 0),(.int 0),(.int 0),(.int 0),(.int 0),(.int 0),(.int 0),(.int 0),(.int 0),(.int 0),(.list []),(.list []),(.list []),(.list []),(.int 0),(.int 0),(.int 0),(.int 0),(.int 0)])
abbrev vp:PE:=.con (.v (.int .u64 4294967295))
abbrev cT:PE:=pi 4294967296
abbrev mO:PE:=.setc z9 0 (pn (pc (.mk [r1]) 15) r2)
abbrev yj:PE:=.mk [(pc (.setc fe 0 ec) 0),(pc (.setc fe 0 ec) 1)]
abbrev yk:PE:=.setc z9 0 (pn (pc (.mk [r2]) 15) (pc (.mk [r2]) 19))
abbrev il:PE:=.setc (.mk [r3]) 18 pL
abbrev nV:PE:=.conv .u64 mU
abbrev QW:PE:=.put (.put (.put (.con (.map [])) (pi 0) (pc o6 3)) (pi 1) (pc o6 14)) (pi 2) (pc o6 5)
abbrev Km:PE:=.pick (.pick (ao (.tget qH 0) (pi 0)) (pc bK 0) pF) (.setc bK 1 (.mn (.mx (pc bK 1) (pi 0)) (pi 20000))) bK
abbrev Cu:PE:=.mk [(pc (.setc o4 0 (.mk [pF,(pi 0)])) 0),(pc (.setc o4 0 (.mk [pF,(pi 0)])) 1)]
abbrev ym:PE:=.con (.agg [(.bool false),(.int 0),(.int 0),(.list []),(.int 0)])
abbrev Ko:PE:=.con (.agg [(.int 0),(.int 0),(.bool false)])
abbrev Kp:PE:=.con (.agg [(.list []),(.list []),(.list []),(.list []),(.list []),(.list []),(.list []),(.list [])])
abbrev Kq:PE:=.ai .shr .u64 (.ai .sub .u64 (.ai .add .u64 (.ai .mul .u64 jE iW) cU) (.ai .mul .u64 cV r2)) r8
abbrev vq:PE:=.setc (.setc bK 3 (.tget CB 0)) 4 (.tget CB 1)
abbrev lT:PE:=.con (.v (.int .u64 0))
abbrev qG:PE:=.ai .shr .u64 r0 sB
abbrev Kr:PE:=.con (.v (.int .u64 16))
abbrev mP:PE:=.con (.v (.int .u64 8))
abbrev Ks:PE:=.con (.agg [(.int 0),(.int 0),(.int 0),(.int 0),(.int 0),(.int 0),(.bool false)])
abbrev Kt:PE:=aJ (bG (aJ (.ai .mul .i64 (pi 12) (.tget ff 0)) (.tget ff 1)) (pi 1)) r1
abbrev jD:PE:=av 8 (.mk [r0])
abbrev vt:PE:=pc (.mk [r0]) 2
abbrev adD:PE:=.mk [(pc (.setc kC 6 pN) 0),(pc (.setc kC 6 pN) 1),(pc (.setc kC 6 pN) 2),(pc (.setc kC 6 pN) 3),(pc (.setc kC 6 pN) 4),(pc (.setc kC 6 pN) 5),(.lst [(pn (pc o6 6) r5)]),(pc (.setc kC 6 pN) 7)]
abbrev QX:PE:=.pick (aV cV iW) pT (bh (.ai .mul .u64 cV cD) (.ai .add .u64 (.ai .mul .u64 iW cE) cU))
abbrev QY:PE:=.pick (aV cJ iW) pT (bh (.ai .mul .u64 cJ cD) (.ai .add .u64 (.ai .mul .u64 iW cE) db))
abbrev Ku:PE:=.ai .sub .u64 vu (.ai .mul .u64 (.ai .quo .u64 vu nU) nU)
abbrev QZ:PE:=.mk [(pc (.setc o4 0 (.mk [(pi 0),(pi 0),pL])) 0),(pc (.setc o4 0 (.mk [(pi 0),(pi 0),pL])) 1),pL]
abbrev jX:PE:=pn bV cU
abbrev kD:PE:=pc (.mk [r0]) 0
abbrev Kv:PE:=.ai .sub .u64 pC (.ai .mul .u64 (.ai .quo .u64 pC r9) r9)
abbrev Kw:PE:=aV (.ai .sub .u64 (.con (.v (.int .u64 64))) nV) (pi 0)
abbrev nX:PE:=pc (.mk [r0]) 1
abbrev nY:PE:=pi 1099511627776
abbrev mQ:PE:=pc (.mk [r0]) 15
abbrev Q0:PE:=av 5 (.setc o8 0 (.mk [(pc bK 0),(pc bK 1),(pc bK 2),(.o 16394),(pc bK 4)]))
abbrev mR:PE:=.llen (pc o3 2)
abbrev adE:PE:=.pick (.pick (.pick (aq (pc yk 2) (pi 0)) pT (aV (pc yk 2) (.llen (pc (.mk [r0]) 3)))) pT (aq r1 (pi 0))) pT (aV r1 (.llen (pc (.mk [r0]) 4)))
abbrev Q3:PE:=.put (.con (.map [])) (pi 7) (aO (.ai .and .i64 (pc o6 13) (pi 1)) (pi 0))
abbrev Q4:PE:=.ai .mul .u64 (.conv .u64 (pc (.mk [r1]) 1)) (.conv .u64 (pc (.mk [r2]) 1))
abbrev Cv:PE:=.ai .shl .u64 r2 nV
abbrev adF:PE:=.ai .shl .u64 r1 nV
abbrev adG:PE:=.ai .add .u64 (.ai .mul .u64 qG (.ai .and .u64 r1 vp)) (.ai .shr .u64 (.ai .mul .u64 (.ai .and .u64 r0 vp) (.ai .and .u64 r1 vp)) sB)
abbrev Cw:PE:=.setc z9 0 (pn (pc (.mk [r0]) 25) r1)
abbrev adH:PE:=.setc z2 0 (.mk [(.pick r0 (bG (pi 0) (.conv .i64 (pc (.mk [r1]) 1))) (.conv .i64 (pc (.mk [r1]) 1))),(.conv .i64 (pc (.mk [r2]) 1))])
abbrev adI:PE:=.pick (.pick (ao (.tget iY 0) lT) (aq (.tget iY 1) (.con (.v (.int .u64 1099511627776)))) pF) (.conv .i64 (.tget iY 1)) nY
abbrev Cy:PE:=bG (pi 2) (pc (pn o7 (pi 0)) 1)
abbrev Ky:PE:=.setc kB 0 (.sub (pn (pc o2 3) ff) 1 3)
abbrev adJ:PE:=.app o2 (.lst [(pc (.setc (.con (.agg [(.v (.string ⟨#[]⟩)),(.int 0),(.int 0),(.list []),(.list []),(.list [])])) 0 jX) 0)])
abbrev Kz:PE:=.ai .add .u64 (.ai .mul .u64 cJ iW) cV
abbrev adK:PE:=.pick (.pick (ao (pc (.setc z5 0 jX) 0) r1) (ao (pc (.setc z5 0 jX) 1) r2) pF) (bL (pc (.setc z5 0 jX) 4) r3) pF
abbrev adL:PE:=.pick (.pick (ao (pc (.setc z3 0 jX) 0) r1) (bL (pc (.setc z3 0 jX) 1) r2) pF) (bL r2 (pc (.setc z3 0 jX) 2)) pF
abbrev lU:PE:=aq cU db
abbrev KA:PE:=.pick (aq r1 (pi 3)) (bG r0 (pi 1)) r0
abbrev adM:PE:=.app o4 (.lst [(pc (.setc (.con (.agg [(.v (.string ⟨#[]⟩)),(.bool false),(.list []),(.list [])])) 0 (pn jZ qI)) 0)])
abbrev adN:PE:=.put (.put (.put Kk (pi 11) (aO Ra Rb)) (pi 12) db) (pi 13) (aO (.ai .and .i64 (pc o8 8) (pi 1)) (pi 0))
abbrev nZ:PE:=pn r1 (pi 1)
abbrev Q5:PE:=.put (.put QW (pi 3) (pc o6 12)) (pi 4) (pc o8 0)
abbrev adO:PE:=.pick (bh (.llen (pc (pn (pc o1 1) r3) 4)) (pi 70)) pT (bh (.llen (pc (pn (pc o1 1) r3) 5)) (pi 210))
abbrev Cz:PE:=.setc Ko 0 (pn ff gM)
abbrev adP:PE:=.app o3 (.lst [(pc (.setc (.con (.agg [(.v (.string ⟨#[]⟩)),(.int 0),(.int 0)])) 0 (pn gM ec)) 0)])
abbrev adQ:PE:=.app o4 (.lst [(pc (.setc (.con (.agg [(.int 0),(.int 0),(.int 0),(.list [])])) 0 (pn ec pE)) 0)])
abbrev sC:PE:=.llen (pc o1 4)
abbrev sD:PE:=.llen (pc o1 1)
abbrev adR:PE:=.an (.cb .eql (pc (pn r1 (pi 0)) 0) (pc yj 0)) (.an (ao (pc (pn r1 (pi 0)) 1) (pc yj 1)) pT)
abbrev adS:PE:=.app (.o 69637) (.lst [(.mk [(pc (.setc z2 0 (pn qK pI)) 0),(pc (.setc z2 0 (pn qK pI)) 1)])])
abbrev CA:PE:=.ai .shr .u64 qG Kr
abbrev yn:PE:=.ai .add .u64 cE r9
abbrev Q6:PE:=pc (pn nX (pc (pn (pc (.mk [r0]) 3) r2) 1)) 2
abbrev Q7:PE:=.setc o4 0 (.mk [(pc o9 0),(pc o9 1),(pc o9 2)])
abbrev Q8:PE:=.setc (.setc o6 4 (.tget pH 0)) 5 (.tget pH 1)
abbrev KC:PE:=.setc z2 0 (.mk [(pi 0),(pi 0)])
abbrev adT:PE:=.pick (bh (aJ Kd (pi 3)) (pi 12)) (bG (aJ Kd (pi 3)) (pi 12)) (aJ Kd (pi 3))
abbrev adU:PE:=.pick (.nt (.nt (.an (.an cU pT) (.nt pF)))) (.app (.o 1000) (.lst [(.tup [r5])])) (.o 1000)
abbrev sE:PE:=aJ r8 (pi 1)
abbrev sF:PE:=.setc z7 0 qH
abbrev adV:PE:=.mk [(pc kC 0),(pc kC 1),(pc kC 2),(pc kC 3),(pc kC 4),(pc kC 5),pL,(pc kC 7)]
abbrev pz:PE:=.llen vt
abbrev adu:PE:=.setc o4 0 (.mk [(pc (.setc fe 0 (.tget jY 0)) 0),(pc (.setc fe 0 (.tget jY 0)) 1)])
abbrev Cr:PE:=.setc z9 0 (pn Rc gN)
abbrev Ka:PE:=.setc fe 0 (.mk [pT,(pi 1)])
abbrev Kb:PE:=.setc fe 0 (.mk [pT,(pi 0)])
abbrev adv:PE:=.setc o8 0 (.mk [(pc (.setc z2 0 (.tget KF 0)) 0),(pc (.setc z2 0 (.tget KF 0)) 1)])
abbrev Kc:PE:=bG (.llen (pc o3 3)) (pi 1)
abbrev vn:PE:=.mk [pF,(pi 0)]
abbrev Cs:PE:=.con (.agg [(.int 0)])
abbrev Ct:PE:=.ai .shr .u64 r0 Kr
abbrev adw:PE:=aJ vm (.ai .mul .i64 (pi 400) (.ai .quo .i64 (aJ r0 (pi 730425)) (pi 146097)))
abbrev pA:PE:=pn cU cE
abbrev ye:PE:=aV sB (pi 0)
abbrev yf:PE:=pc (.mk [r0]) 18
abbrev adx:PE:=.ai .mul .u64 (.conv .u64 (pc (.mk [r1]) 0)) (.conv .u64 (pc (.mk [r2]) 0))
abbrev qF:PE:=pn cD bV
abbrev Ke:PE:=.con (.v (.int .u64 256))
abbrev Kf:PE:=.ai .shr .u64 adF sB
abbrev Kg:PE:=.ai .and .u64 adF vp
abbrev Kh:PE:=.ai .and .u64 Cv vp
abbrev yg:PE:=pc (.mk [r0]) 5
abbrev yh:PE:=aJ cU (pi 1)
abbrev QR:PE:=.pick (aV r0 (pi 0)) (aq r0 r1) pF
abbrev yi:PE:=.llen (pc o1 3)
abbrev ady:PE:=.setc o4 0 (.mk [(pc (.setc fe 0 Ri) 0),(pc (.setc fe 0 Ri) 1)])
abbrev adz:PE:=.setc o4 0 (.mk [(pc (.setc fe 0 mS) 0),(pc (.setc fe 0 mS) 1)])
abbrev Ki:PE:=.ai .quo .u64 vu nU
abbrev adA:PE:=.setc jV 0 (.mk [(.lst [(pi 1),(pi (-1)),(pi (-1))]),(pi (-1))])
abbrev adB:PE:=.pick (aO (pc o3 22) (pi (-1))) (bG (pc o8 6) (pc o3 22)) (pi 0)
abbrev Kj:PE:=.con (.v (.int .u64 1))
abbrev QS:PE:=.ai .rem .i64 (pn r8 cD) (pi 100)
abbrev adC:PE:=.app (.o 77829) (.lst [(.mk [(pc PY 0),(pc PY 1),(pc PY 2)])])
end Rm
