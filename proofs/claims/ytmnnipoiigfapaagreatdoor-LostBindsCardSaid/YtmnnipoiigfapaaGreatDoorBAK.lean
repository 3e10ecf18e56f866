/-
  Shared texts of this claim.
-/
import Derived.Test.YtmnnipoiigfapaaGreatDoorBAJ
import Derived.Test.YtmnnipoiigfapaaGreatDoorProg
set_option linter.unusedSimpArgs false
set_option linter.unusedVariables false
noncomputable section
namespace Rm
open Go Cx
abbrev str (b:ByteArray):D:=.v (.string b)
def strs (l:List ByteArray):D:=.list (l.map str)
@[simp] theorem atG (l:List ByteArray):(strs l).l=l.map str:=_root_.id rfl
theorem str_inv {d:D}(h:DTy .str d):∃b,d=str b:=by
 cases h with
 |str b=>exact⟨b,rfl⟩
 |other t d h=>exact h.elim
theorem atE {d:D}(h:DTy (.slice .str) d):∃l:List ByteArray,d=strs l∧l.length≤maxLen:=by
 obtain⟨xs,rfl,hm,hx⟩:=h.slice_inv;obtain⟨l,rfl,hl⟩:=jZ (enc:=str) (P:=fun _=>True) fun x hh=>(str_inv (hx x hh)).imp fun b hb=>⟨hb,trivial⟩
 exact⟨l,rfl,by simpa using hm⟩
@[simp] theorem azi (t:Tm):(dL t).cells=[.int t.op,.int t.n,.list (t.args.map dL)]:=by rw[Du];rfl
@[simp] theorem azj (t:Tm):D.agg [.int t.op,.int t.n,.list (t.args.map dL)]=dL t:=(Du t).symm
@[simp] theorem azf (t:Tm):(dL t).c 0=.int t.op:=by rw[Du];rfl
@[simp] theorem azg (t:Tm):(dL t).c 1=.int t.n:=by rw[Du];rfl
@[simp] theorem azh (t:Tm):(dL t).c 2=.list (t.args.map dL):=by rw[Du];rfl
structure City where
 name:ByteArray
 order:Int
 currency:Int
 rest:List Int
 feasts:List Int
 shut:List Int
 deriving Inhabited
def gw (x:City):D:=.agg [str x.name,.int x.order,.int x.currency,ints x.rest,ints x.feasts,ints x.shut]
@[simp] theorem axO (x:City):(gw x).cells=[str x.name,.int x.order,.int x.currency,ints x.rest,ints x.feasts,ints x.shut]:=_root_.id rfl
@[simp] theorem aCV (x:City):D.agg [str x.name,.int x.order,.int x.currency,ints x.rest,ints x.feasts,ints x.shut]=gw x:=_root_.id rfl
@[simp] theorem az2 (x:City):gV 6 (gw x)=gw x:=_root_.id rfl
@[simp] theorem axI (x:City):(gw x).c 0=str x.name:=_root_.id rfl
@[simp] theorem axJ (x:City):(gw x).c 1=.int x.order:=_root_.id rfl
@[simp] theorem axK (x:City):(gw x).c 2=.int x.currency:=_root_.id rfl
@[simp] theorem axL (x:City):(gw x).c 3=ints x.rest:=_root_.id rfl
@[simp] theorem axM (x:City):(gw x).c 4=ints x.feasts:=_root_.id rfl
@[simp] theorem axN (x:City):(gw x).c 5=ints x.shut:=_root_.id rfl
def pS (l:List City):D:=.list (l.map gw)
@[simp] theorem aAv (l:List City):(pS l).l=l.map gw:=_root_.id rfl
abbrev Wa:Ty:=.agg [.str,.int .i64,.int .i64,.slice (.int .i64),.slice (.int .i64),.slice (.int .i64)]
def City.OK (x:City):Prop:=aQ x.order∧aQ x.currency∧(x.rest.length≤maxLen∧∀y,y∈x.rest→aQ y)∧(x.feasts.length≤maxLen∧∀y,y∈x.feasts→aQ y)∧(x.shut.length≤maxLen∧∀y,y∈x.shut→aQ y)
theorem ahP {d:D}(h:DTy Wa d):∃x:City,d=gw x∧x.OK:=by
 obtain⟨ds,rfl,hs⟩:=h.agg_inv;obtain⟨d0,ds,rfl,h0,hs⟩:=hs.cons_inv;obtain⟨d1,ds,rfl,h1,hs⟩:=hs.cons_inv;obtain⟨d2,ds,rfl,h2,hs⟩:=hs.cons_inv;obtain⟨d3,ds,rfl,h3,hs⟩:=hs.cons_inv;obtain⟨d4,ds,rfl,h4,hs⟩:=hs.cons_inv;obtain⟨d5,ds,rfl,h5,hs⟩:=hs.cons_inv;obtain rfl:=hs.nil_inv;obtain⟨n0,rfl⟩:=str_inv h0;obtain⟨n1,rfl,b1⟩:=h1.i64_inv;obtain⟨n2,rfl,b2⟩:=h2.i64_inv;obtain⟨n3,rfl,b3,c3⟩:=h3.ints_inv;obtain⟨n4,rfl,b4,c4⟩:=h4.ints_inv;obtain⟨n5,rfl,b5,c5⟩:=h5.ints_inv;exact⟨⟨n0,n1,n2,n3,n4,n5⟩,rfl,⟨b1,b2,⟨b3,c3⟩,⟨b4,c4⟩,⟨b5,c5⟩⟩⟩
theorem ahQ {d:D}(h:DTy (.slice Wa) d):∃l:List City,d=pS l∧l.length≤maxLen∧∀y,y∈l→City.OK y:=by
 obtain⟨xs,rfl,hm,hx⟩:=h.slice_inv;obtain⟨l,rfl,hl⟩:=jZ (enc:=gw) (P:=City.OK) fun x hh=>ahP (hx x hh);exact⟨l,rfl,by simpa using hm,hl⟩
structure Firm where
 name:ByteArray
 city:Int
 group:Int
 deriving Inhabited
def s9 (x:Firm):D:=.agg [str x.name,.int x.city,.int x.group]
@[simp] theorem ayo (x:Firm):(s9 x).cells=[str x.name,.int x.city,.int x.group]:=_root_.id rfl
@[simp] theorem aCZ (x:Firm):D.agg [str x.name,.int x.city,.int x.group]=s9 x:=_root_.id rfl
@[simp] theorem ayl (x:Firm):(s9 x).c 0=str x.name:=_root_.id rfl
@[simp] theorem aym (x:Firm):(s9 x).c 1=.int x.city:=_root_.id rfl
@[simp] theorem ayn (x:Firm):(s9 x).c 2=.int x.group:=_root_.id rfl
def firms (l:List Firm):D:=.list (l.map s9)
@[simp] theorem aBM (l:List Firm):(firms l).l=l.map s9:=_root_.id rfl
abbrev Wc:Ty:=.agg [.str,.int .i64,.int .i64]
def Firm.OK (x:Firm):Prop:=aQ x.city∧aQ x.group
theorem ajx {d:D}(h:DTy Wc d):∃x:Firm,d=s9 x∧x.OK:=by
 obtain⟨ds,rfl,hs⟩:=h.agg_inv;obtain⟨d0,ds,rfl,h0,hs⟩:=hs.cons_inv;obtain⟨d1,ds,rfl,h1,hs⟩:=hs.cons_inv;obtain⟨d2,ds,rfl,h2,hs⟩:=hs.cons_inv;obtain rfl:=hs.nil_inv;obtain⟨n0,rfl⟩:=str_inv h0;obtain⟨n1,rfl,b1⟩:=h1.i64_inv;obtain⟨n2,rfl,b2⟩:=h2.i64_inv;exact⟨⟨n0,n1,n2⟩,rfl,⟨b1,b2⟩⟩
theorem ajy {d:D}(h:DTy (.slice Wc) d):∃l:List Firm,d=firms l∧l.length≤maxLen∧∀y,y∈l→Firm.OK y:=by
 obtain⟨xs,rfl,hm,hx⟩:=h.slice_inv;obtain⟨l,rfl,hl⟩:=jZ (enc:=s9) (P:=Firm.OK) fun x hh=>ajx (hx x hh);exact⟨l,rfl,by simpa using hm,hl⟩
structure Group where
 grade:Int
 deriving DecidableEq,Inhabited
def wH (x:Group):D:=.agg [.int x.grade]
@[simp] theorem ayq (x:Group):(wH x).cells=[.int x.grade]:=_root_.id rfl
@[simp] theorem aC0 (x:Group):D.agg [.int x.grade]=wH x:=_root_.id rfl
@[simp] theorem ayp (x:Group):(wH x).c 0=.int x.grade:=_root_.id rfl
def groups (l:List Group):D:=.list (l.map wH)
@[simp] theorem aBV (l:List Group):(groups l).l=l.map wH:=_root_.id rfl
abbrev Wd:Ty:=.agg [.int .i64]
def Group.OK (x:Group):Prop:=aQ x.grade
theorem akZ {d:D}(h:DTy Wd d):∃x:Group,d=wH x∧x.OK:=by
 obtain⟨ds,rfl,hs⟩:=h.agg_inv;obtain⟨d0,ds,rfl,h0,hs⟩:=hs.cons_inv;obtain rfl:=hs.nil_inv;obtain⟨n0,rfl,b0⟩:=h0.i64_inv;exact⟨⟨n0⟩,rfl,b0⟩
theorem ak0 {d:D}(h:DTy (.slice Wd) d):∃l:List Group,d=groups l∧l.length≤maxLen∧∀y,y∈l→Group.OK y:=by
 obtain⟨xs,rfl,hm,hx⟩:=h.slice_inv;obtain⟨l,rfl,hl⟩:=jZ (enc:=wH) (P:=Group.OK) fun x hh=>akZ (hx x hh);exact⟨l,rfl,by simpa using hm,hl⟩
structure Usance where
 fr:Int
 to:Int
 days:Int
 deriving DecidableEq,Inhabited
def th (x:Usance):D:=.agg [.int x.fr,.int x.to,.int x.days]
@[simp] theorem azs (x:Usance):(th x).cells=[.int x.fr,.int x.to,.int x.days]:=_root_.id rfl
@[simp] theorem aDc (x:Usance):D.agg [.int x.fr,.int x.to,.int x.days]=th x:=_root_.id rfl
@[simp] theorem azp (x:Usance):(th x).c 0=.int x.fr:=_root_.id rfl
@[simp] theorem azq (x:Usance):(th x).c 1=.int x.to:=_root_.id rfl
@[simp] theorem azr (x:Usance):(th x).c 2=.int x.days:=_root_.id rfl
def usances (l:List Usance):D:=.list (l.map th)
@[simp] theorem aEn (l:List Usance):(usances l).l=l.map th:=_root_.id rfl
abbrev Wk:Ty:=.agg [.int .i64,.int .i64,.int .i64]
def Usance.OK (x:Usance):Prop:=aQ x.fr∧aQ x.to∧aQ x.days
theorem awC {d:D}(h:DTy Wk d):∃x:Usance,d=th x∧x.OK:=by
 obtain⟨ds,rfl,hs⟩:=h.agg_inv;obtain⟨d0,ds,rfl,h0,hs⟩:=hs.cons_inv;obtain⟨d1,ds,rfl,h1,hs⟩:=hs.cons_inv;obtain⟨d2,ds,rfl,h2,hs⟩:=hs.cons_inv;obtain rfl:=hs.nil_inv;obtain⟨n0,rfl,b0⟩:=h0.i64_inv;obtain⟨n1,rfl,b1⟩:=h1.i64_inv;obtain⟨n2,rfl,b2⟩:=h2.i64_inv;exact⟨⟨n0,n1,n2⟩,rfl,⟨b0,b1,b2⟩⟩
theorem awD {d:D}(h:DTy (.slice Wk) d):∃l:List Usance,d=usances l∧l.length≤maxLen∧∀y,y∈l→Usance.OK y:=by
 obtain⟨xs,rfl,hm,hx⟩:=h.slice_inv;obtain⟨l,rfl,hl⟩:=jZ (enc:=th) (P:=Usance.OK) fun x hh=>awC (hx x hh);exact⟨l,rfl,by simpa using hm,hl⟩
structure Rate where
 fr:Int
 to:Int
 num:Int
 den:Int
 since:Int
 deriving DecidableEq,Inhabited
def p7 (x:Rate):D:=.agg [.int x.fr,.int x.to,.int x.num,.int x.den,.int x.since]
@[simp] theorem ayP (x:Rate):(p7 x).cells=[.int x.fr,.int x.to,.int x.num,.int x.den,.int x.since]:=_root_.id rfl
@[simp] theorem aC5 (x:Rate):D.agg [.int x.fr,.int x.to,.int x.num,.int x.den,.int x.since]=p7 x:=_root_.id rfl
@[simp] theorem ayK (x:Rate):(p7 x).c 0=.int x.fr:=_root_.id rfl
@[simp] theorem ayL (x:Rate):(p7 x).c 1=.int x.to:=_root_.id rfl
@[simp] theorem ayM (x:Rate):(p7 x).c 2=.int x.num:=_root_.id rfl
@[simp] theorem ayN (x:Rate):(p7 x).c 3=.int x.den:=_root_.id rfl
@[simp] theorem ayO (x:Rate):(p7 x).c 4=.int x.since:=_root_.id rfl
def rates (l:List Rate):D:=.list (l.map p7)
@[simp] theorem aDL (l:List Rate):(rates l).l=l.map p7:=_root_.id rfl
abbrev Wh:Ty:=.agg [.int .i64,.int .i64,.int .i64,.int .i64,.int .i64]
def Rate.OK (x:Rate):Prop:=aQ x.fr∧aQ x.to∧aQ x.num∧aQ x.den∧aQ x.since
theorem asz {d:D}(h:DTy Wh d):∃x:Rate,d=p7 x∧x.OK:=by
 obtain⟨ds,rfl,hs⟩:=h.agg_inv;obtain⟨d0,ds,rfl,h0,hs⟩:=hs.cons_inv;obtain⟨d1,ds,rfl,h1,hs⟩:=hs.cons_inv;obtain⟨d2,ds,rfl,h2,hs⟩:=hs.cons_inv;obtain⟨d3,ds,rfl,h3,hs⟩:=hs.cons_inv;obtain⟨d4,ds,rfl,h4,hs⟩:=hs.cons_inv;obtain rfl:=hs.nil_inv;obtain⟨n0,rfl,b0⟩:=h0.i64_inv;obtain⟨n1,rfl,b1⟩:=h1.i64_inv;obtain⟨n2,rfl,b2⟩:=h2.i64_inv;obtain⟨n3,rfl,b3⟩:=h3.i64_inv;obtain⟨n4,rfl,b4⟩:=h4.i64_inv;exact⟨⟨n0,n1,n2,n3,n4⟩,rfl,⟨b0,b1,b2,b3,b4⟩⟩
theorem asA {d:D}(h:DTy (.slice Wh) d):∃l:List Rate,d=rates l∧l.length≤maxLen∧∀y,y∈l→Rate.OK y:=by
 obtain⟨xs,rfl,hm,hx⟩:=h.slice_inv;obtain⟨l,rfl,hl⟩:=jZ (enc:=p7) (P:=Rate.OK) fun x hh=>asz (hx x hh);exact⟨l,rfl,by simpa using hm,hl⟩
structure Halt where
 order:Int
 fr:Int
 to:Int
 deriving DecidableEq,Inhabited
def tc (x:Halt):D:=.agg [.int x.order,.int x.fr,.int x.to]
@[simp] theorem ayu (x:Halt):(tc x).cells=[.int x.order,.int x.fr,.int x.to]:=_root_.id rfl
@[simp] theorem aC1 (x:Halt):D.agg [.int x.order,.int x.fr,.int x.to]=tc x:=_root_.id rfl
@[simp] theorem ayr (x:Halt):(tc x).c 0=.int x.order:=_root_.id rfl
@[simp] theorem ays (x:Halt):(tc x).c 1=.int x.fr:=_root_.id rfl
@[simp] theorem ayt (x:Halt):(tc x).c 2=.int x.to:=_root_.id rfl
def halts (l:List Halt):D:=.list (l.map tc)
@[simp] theorem aB3 (l:List Halt):(halts l).l=l.map tc:=_root_.id rfl
abbrev We:Ty:=.agg [.int .i64,.int .i64,.int .i64]
def Halt.OK (x:Halt):Prop:=aQ x.order∧aQ x.fr∧aQ x.to
theorem alu {d:D}(h:DTy We d):∃x:Halt,d=tc x∧x.OK:=by
 obtain⟨ds,rfl,hs⟩:=h.agg_inv;obtain⟨d0,ds,rfl,h0,hs⟩:=hs.cons_inv;obtain⟨d1,ds,rfl,h1,hs⟩:=hs.cons_inv;obtain⟨d2,ds,rfl,h2,hs⟩:=hs.cons_inv;obtain rfl:=hs.nil_inv;obtain⟨n0,rfl,b0⟩:=h0.i64_inv;obtain⟨n1,rfl,b1⟩:=h1.i64_inv;obtain⟨n2,rfl,b2⟩:=h2.i64_inv;exact⟨⟨n0,n1,n2⟩,rfl,⟨b0,b1,b2⟩⟩
theorem alv {d:D}(h:DTy (.slice We) d):∃l:List Halt,d=halts l∧l.length≤maxLen∧∀y,y∈l→Halt.OK y:=by
 obtain⟨xs,rfl,hm,hx⟩:=h.slice_inv;obtain⟨l,rfl,hl⟩:=jZ (enc:=tc) (P:=Halt.OK) fun x hh=>alu (hx x hh);exact⟨l,rfl,by simpa using hm,hl⟩
structure Choice where
 ask:Int
 by_:Int
 whole:Bool
 deriving DecidableEq,Inhabited
def uK (x:Choice):D:=.agg [.int x.ask,.int x.by_,.bool x.whole]
@[simp] theorem axH (x:Choice):(uK x).cells=[.int x.ask,.int x.by_,.bool x.whole]:=_root_.id rfl
@[simp] theorem aCU (x:Choice):D.agg [.int x.ask,.int x.by_,.bool x.whole]=uK x:=_root_.id rfl
@[simp] theorem axF (x:Choice):(uK x).c 0=.int x.ask:=_root_.id rfl
@[simp] theorem axG (x:Choice):(uK x).c 1=.int x.by_:=_root_.id rfl
def choices (l:List Choice):D:=.list (l.map uK)
@[simp] theorem aAu (l:List Choice):(choices l).l=l.map uK:=_root_.id rfl
abbrev V9:Ty:=.agg [.int .i64,.int .i64,.bool]
def Choice.OK (x:Choice):Prop:=aQ x.ask∧aQ x.by_
theorem ahM {d:D}(h:DTy V9 d):∃x:Choice,d=uK x∧x.OK:=by
 obtain⟨ds,rfl,hs⟩:=h.agg_inv;obtain⟨d0,ds,rfl,h0,hs⟩:=hs.cons_inv;obtain⟨d1,ds,rfl,h1,hs⟩:=hs.cons_inv;obtain⟨d2,ds,rfl,h2,hs⟩:=hs.cons_inv;obtain rfl:=hs.nil_inv;obtain⟨n0,rfl,b0⟩:=h0.i64_inv;obtain⟨n1,rfl,b1⟩:=h1.i64_inv;obtain⟨n2,rfl⟩:=h2.bool_inv;exact⟨⟨n0,n1,n2⟩,rfl,⟨b0,b1⟩⟩
theorem ahN {d:D}(h:DTy (.slice V9) d):∃l:List Choice,d=choices l∧l.length≤maxLen∧∀y,y∈l→Choice.OK y:=by
 obtain⟨xs,rfl,hm,hx⟩:=h.slice_inv;obtain⟨l,rfl,hl⟩:=jZ (enc:=uK) (P:=Choice.OK) fun x hh=>ahM (hx x hh);exact⟨l,rfl,by simpa using hm,hl⟩
structure Rule where
 ask:Int
 term:Tm
 deriving Inhabited
def td (x:Rule):D:=.agg [.int x.ask,.int x.term.op,.int x.term.n,.list (x.term.args.map dL)]
@[simp] theorem ay0 (x:Rule):(td x).cells=[.int x.ask,.int x.term.op,.int x.term.n,.list (x.term.args.map dL)]:=_root_.id rfl
@[simp] theorem aC7 (x:Rule):D.agg [.int x.ask,.int x.term.op,.int x.term.n,.list (x.term.args.map dL)]=td x:=_root_.id rfl
@[simp] theorem ayZ (x:Rule):(td x).c 0=.int x.ask:=_root_.id rfl
def rules (l:List Rule):D:=.list (l.map td)
@[simp] theorem aDP (l:List Rule):(rules l).l=l.map td:=_root_.id rfl
abbrev Wi:Ty:=.agg [.int .i64,.int .i64,.int .i64,.slice .trm]
def Rule.OK (x:Rule):Prop:=aQ x.ask∧Tm.OK x.term
theorem as8 {d:D}(h:DTy Wi d):∃x:Rule,d=td x∧x.OK:=by
 obtain⟨ds,rfl,hs⟩:=h.agg_inv;obtain⟨d0,ds,rfl,h0,hs⟩:=hs.cons_inv;obtain⟨d1,ds,rfl,h1,hs⟩:=hs.cons_inv;obtain⟨d2,ds,rfl,h2,hs⟩:=hs.cons_inv;obtain⟨d3,ds,rfl,h3,hs⟩:=hs.cons_inv;obtain rfl:=hs.nil_inv;obtain⟨n0,rfl,b0⟩:=h0.i64_inv;obtain⟨n1,rfl,b1⟩:=h1.i64_inv;obtain⟨n2,rfl,b2⟩:=h2.i64_inv;obtain⟨n3,rfl,b3,c3⟩:=h3.trms_inv;exact⟨⟨n0,.mk n1 n2 n3⟩,rfl,⟨b0,.mk _ _ _ b1 b2 b3 c3⟩⟩
theorem as9 {d:D}(h:DTy (.slice Wi) d):∃l:List Rule,d=rules l∧l.length≤maxLen∧∀y,y∈l→Rule.OK y:=by
 obtain⟨xs,rfl,hm,hx⟩:=h.slice_inv;obtain⟨l,rfl,hl⟩:=jZ (enc:=td) (P:=Rule.OK) fun x hh=>as8 (hx x hh);exact⟨l,rfl,by simpa using hm,hl⟩
structure Order where
 name:ByteArray
 accepts:Bool
 choices:List Choice
 rules:List Rule
 deriving Inhabited
def jN (x:Order):D:=.agg [str x.name,.bool x.accepts,choices x.choices,rules x.rules]
@[simp] theorem ayJ (x:Order):(jN x).cells=[str x.name,.bool x.accepts,choices x.choices,rules x.rules]:=_root_.id rfl
@[simp] theorem aC4 (x:Order):D.agg [str x.name,.bool x.accepts,choices x.choices,rules x.rules]=jN x:=_root_.id rfl
@[simp] theorem az6 (x:Order):gV 4 (jN x)=jN x:=_root_.id rfl
@[simp] theorem ayF (x:Order):(jN x).c 0=str x.name:=_root_.id rfl
@[simp] theorem ayG (x:Order):(jN x).c 1=.bool x.accepts:=_root_.id rfl
@[simp] theorem ayH (x:Order):(jN x).c 2=choices x.choices:=_root_.id rfl
@[simp] theorem ayI (x:Order):(jN x).c 3=rules x.rules:=_root_.id rfl
def orders (l:List Order):D:=.list (l.map jN)
@[simp] theorem aDo (l:List Order):(orders l).l=l.map jN:=_root_.id rfl
abbrev Wg:Ty:=.agg [.str,.bool,.slice V9,.slice Wi]
def Order.OK (x:Order):Prop:=(x.choices.length≤maxLen∧∀y,y∈x.choices→Choice.OK y)∧(x.rules.length≤maxLen∧∀y,y∈x.rules→Rule.OK y)
theorem arz {d:D}(h:DTy Wg d):∃x:Order,d=jN x∧x.OK:=by
 obtain⟨ds,rfl,hs⟩:=h.agg_inv;obtain⟨d0,ds,rfl,h0,hs⟩:=hs.cons_inv;obtain⟨d1,ds,rfl,h1,hs⟩:=hs.cons_inv;obtain⟨d2,ds,rfl,h2,hs⟩:=hs.cons_inv;obtain⟨d3,ds,rfl,h3,hs⟩:=hs.cons_inv;obtain rfl:=hs.nil_inv;obtain⟨n0,rfl⟩:=str_inv h0;obtain⟨n1,rfl⟩:=h1.bool_inv;obtain⟨n2,rfl,b2,c2⟩:=ahN h2;obtain⟨n3,rfl,b3,c3⟩:=as9 h3;exact⟨⟨n0,n1,n2,n3⟩,rfl,⟨⟨b2,c2⟩,⟨b3,c3⟩⟩⟩
theorem arA {d:D}(h:DTy (.slice Wg) d):∃l:List Order,d=orders l∧l.length≤maxLen∧∀y,y∈l→Order.OK y:=by
 obtain⟨xs,rfl,hm,hx⟩:=h.slice_inv;obtain⟨l,rfl,hl⟩:=jZ (enc:=jN) (P:=Order.OK) fun x hh=>arz (hx x hh);exact⟨l,rfl,by simpa using hm,hl⟩
structure Realm where
 currencies:List ByteArray
 cities:List City
 groups:List Group
 firms:List Firm
 orders:List Order
 usances:List Usance
 rates:List Rate
 halts:List Halt
 deriving Inhabited
def aW (x:Realm):D:=.agg [strs x.currencies,pS x.cities,groups x.groups,firms x.firms,orders x.orders,usances x.usances,rates x.rates,halts x.halts]
@[simp] theorem ayY (x:Realm):(aW x).cells=[strs x.currencies,pS x.cities,groups x.groups,firms x.firms,orders x.orders,usances x.usances,rates x.rates,halts x.halts]:=_root_.id rfl
@[simp] theorem aC6 (x:Realm):D.agg [strs x.currencies,pS x.cities,groups x.groups,firms x.firms,orders x.orders,usances x.usances,rates x.rates,halts x.halts]=aW x:=_root_.id rfl
@[simp] theorem az7 (x:Realm):gV 8 (aW x)=aW x:=_root_.id rfl
@[simp] theorem aDs (x:Realm)(a0 a1 a2 a3 a4 a5 a6 a7:D):D.agg (bZ [a0,a1,a2,a3,a4,a5,a6,a7] 0 [strs x.currencies,pS x.cities,groups x.groups,firms x.firms,orders x.orders,usances x.usances,rates x.rates,halts x.halts])=aW x:=_root_.id rfl
@[simp] theorem ayQ (x:Realm):(aW x).c 0=strs x.currencies:=_root_.id rfl
@[simp] theorem ayR (x:Realm):(aW x).c 1=pS x.cities:=_root_.id rfl
@[simp] theorem ayS (x:Realm):(aW x).c 2=groups x.groups:=_root_.id rfl
@[simp] theorem ayT (x:Realm):(aW x).c 3=firms x.firms:=_root_.id rfl
@[simp] theorem ayU (x:Realm):(aW x).c 4=orders x.orders:=_root_.id rfl
@[simp] theorem ayV (x:Realm):(aW x).c 5=usances x.usances:=_root_.id rfl
@[simp] theorem ayW (x:Realm):(aW x).c 6=rates x.rates:=_root_.id rfl
@[simp] theorem ayX (x:Realm):(aW x).c 7=halts x.halts:=_root_.id rfl
abbrev awv:Ty:=.agg [.slice .str,.slice Wa,.slice Wd,.slice Wc,.slice Wg,.slice Wk,.slice Wh,.slice We]
def Realm.OK (x:Realm):Prop:=x.currencies.length≤maxLen∧(x.cities.length≤maxLen∧∀y,y∈x.cities→City.OK y)∧(x.groups.length≤maxLen∧∀y,y∈x.groups→Group.OK y)∧(x.firms.length≤maxLen∧∀y,y∈x.firms→Firm.OK y)∧(x.orders.length≤maxLen∧∀y,y∈x.orders→Order.OK y)∧(x.usances.length≤maxLen∧∀y,y∈x.usances→Usance.OK y)∧(x.rates.length≤maxLen∧∀y,y∈x.rates→Rate.OK y)∧(x.halts.length≤maxLen∧∀y,y∈x.halts→Halt.OK y)
theorem asL {d:D}(h:DTy awv d):∃x:Realm,d=aW x∧x.OK:=by
 obtain⟨ds,rfl,hs⟩:=h.agg_inv;obtain⟨d0,ds,rfl,h0,hs⟩:=hs.cons_inv;obtain⟨d1,ds,rfl,h1,hs⟩:=hs.cons_inv;obtain⟨d2,ds,rfl,h2,hs⟩:=hs.cons_inv;obtain⟨d3,ds,rfl,h3,hs⟩:=hs.cons_inv;obtain⟨d4,ds,rfl,h4,hs⟩:=hs.cons_inv;obtain⟨d5,ds,rfl,h5,hs⟩:=hs.cons_inv;obtain⟨d6,ds,rfl,h6,hs⟩:=hs.cons_inv;obtain⟨d7,ds,rfl,h7,hs⟩:=hs.cons_inv;obtain rfl:=hs.nil_inv;obtain⟨n0,rfl,b0⟩:=atE h0;obtain⟨n1,rfl,b1,c1⟩:=ahQ h1;obtain⟨n2,rfl,b2,c2⟩:=ak0 h2;obtain⟨n3,rfl,b3,c3⟩:=ajy h3;obtain⟨n4,rfl,b4,c4⟩:=arA h4;obtain⟨n5,rfl,b5,c5⟩:=awD h5;obtain⟨n6,rfl,b6,c6⟩:=asA h6;obtain⟨n7,rfl,b7,c7⟩:=alv h7;exact⟨⟨n0,n1,n2,n3,n4,n5,n6,n7⟩,rfl,⟨b0,⟨b1,c1⟩,⟨b2,c2⟩,⟨b3,c3⟩,⟨b4,c4⟩,⟨b5,c5⟩,⟨b6,c6⟩,⟨b7,c7⟩⟩⟩
structure Tenor where
 kind:Int
 n:Int
 unit:Int
 deriving DecidableEq,Inhabited
def tg (x:Tenor):D:=.agg [.int x.kind,.int x.n,.int x.unit]
@[simp] theorem azn (x:Tenor):(tg x).cells=[.int x.kind,.int x.n,.int x.unit]:=_root_.id rfl
@[simp] theorem aDb (x:Tenor):D.agg [.int x.kind,.int x.n,.int x.unit]=tg x:=_root_.id rfl
@[simp] theorem azk (x:Tenor):(tg x).c 0=.int x.kind:=_root_.id rfl
@[simp] theorem azl (x:Tenor):(tg x).c 1=.int x.n:=_root_.id rfl
@[simp] theorem azm (x:Tenor):(tg x).c 2=.int x.unit:=_root_.id rfl
def Tenor.OK (x:Tenor):Prop:=aQ x.kind∧aQ x.n∧aQ x.unit
structure Bill where
 drawer:Int
 drawee:Int
 payee:Int
 sum:Int
 currency:Int
 tenor:Tenor
 day:Int
 city:Int
 pay:Int
 need:Int
 rate:Int
 flags:Int
 parts:Int
 deriving DecidableEq,Inhabited
def eF (x:Bill):D:=.agg [.int x.drawer,.int x.drawee,.int x.payee,.int x.sum,.int x.currency,.int x.tenor.kind,.int x.tenor.n,.int x.tenor.unit,.int x.day,.int x.city,.int x.pay,.int x.need,.int x.rate,.int x.flags,.int x.parts]
@[simp] theorem axq (x:Bill):(eF x).cells=[.int x.drawer,.int x.drawee,.int x.payee,.int x.sum,.int x.currency,.int x.tenor.kind,.int x.tenor.n,.int x.tenor.unit,.int x.day,.int x.city,.int x.pay,.int x.need,.int x.rate,.int x.flags,.int x.parts]:=_root_.id rfl
@[simp] theorem aCQ (x:Bill):D.agg [.int x.drawer,.int x.drawee,.int x.payee,.int x.sum,.int x.currency,.int x.tenor.kind,.int x.tenor.n,.int x.tenor.unit,.int x.day,.int x.city,.int x.pay,.int x.need,.int x.rate,.int x.flags,.int x.parts]=eF x:=_root_.id rfl
@[simp] theorem az0 (x:Bill):gV 15 (eF x)=eF x:=_root_.id rfl
@[simp] theorem aDp (x:Bill)(a0 a1 a2 a3 a4 a5 a6 a7 a8 a9 pE pG pH pI pJ:D):D.agg (bZ [a0,a1,a2,a3,a4,a5,a6,a7,a8,a9,pE,pG,pH,pI,pJ] 0 [.int x.drawer,.int x.drawee,.int x.payee,.int x.sum,.int x.currency,.int x.tenor.kind,.int x.tenor.n,.int x.tenor.unit,.int x.day,.int x.city,.int x.pay,.int x.need,.int x.rate,.int x.flags,.int x.parts])=eF x:=_root_.id rfl
@[simp] theorem axb (x:Bill):(eF x).c 0=.int x.drawer:=_root_.id rfl
@[simp] theorem axc (x:Bill):(eF x).c 1=.int x.drawee:=_root_.id rfl
@[simp] theorem axi (x:Bill):(eF x).c 2=.int x.payee:=_root_.id rfl
@[simp] theorem axj (x:Bill):(eF x).c 3=.int x.sum:=_root_.id rfl
@[simp] theorem axk (x:Bill):(eF x).c 4=.int x.currency:=_root_.id rfl
@[simp] theorem axl (x:Bill):(eF x).c 5=.int x.tenor.kind:=_root_.id rfl
@[simp] theorem axm (x:Bill):(eF x).c 6=.int x.tenor.n:=_root_.id rfl
@[simp] theorem axn (x:Bill):(eF x).c 7=.int x.tenor.unit:=_root_.id rfl
@[simp] theorem axo (x:Bill):(eF x).c 8=.int x.day:=_root_.id rfl
@[simp] theorem axp (x:Bill):(eF x).c 9=.int x.city:=_root_.id rfl
@[simp] theorem axd (x:Bill):(eF x).c 10=.int x.pay:=_root_.id rfl
@[simp] theorem axe (x:Bill):(eF x).c 11=.int x.need:=_root_.id rfl
@[simp] theorem axf (x:Bill):(eF x).c 12=.int x.rate:=_root_.id rfl
@[simp] theorem axg (x:Bill):(eF x).c 13=.int x.flags:=_root_.id rfl
@[simp] theorem axh (x:Bill):(eF x).c 14=.int x.parts:=_root_.id rfl
def Bill.OK (x:Bill):Prop:=aQ x.drawer∧aQ x.drawee∧aQ x.payee∧aQ x.sum∧aQ x.currency∧Tenor.OK x.tenor∧aQ x.day∧aQ x.city∧aQ x.pay∧aQ x.need∧aQ x.rate∧aQ x.flags∧aQ x.parts
structure Sign where
 kind:Int
 part:Int
 who:Int
 for_:Int
 to:Int
 sum:Int
 day:Int
 city:Int
 flags:Int
 deriving DecidableEq,Inhabited
def ff (x:Sign):D:=.agg [.int x.kind,.int x.part,.int x.who,.int x.for_,.int x.to,.int x.sum,.int x.day,.int x.city,.int x.flags]
@[simp] theorem aze (x:Sign):(ff x).cells=[.int x.kind,.int x.part,.int x.who,.int x.for_,.int x.to,.int x.sum,.int x.day,.int x.city,.int x.flags]:=_root_.id rfl
@[simp] theorem aDa (x:Sign):D.agg [.int x.kind,.int x.part,.int x.who,.int x.for_,.int x.to,.int x.sum,.int x.day,.int x.city,.int x.flags]=ff x:=_root_.id rfl
@[simp] theorem az9 (x:Sign):gV 9 (ff x)=ff x:=_root_.id rfl
@[simp] theorem ay5 (x:Sign):(ff x).c 0=.int x.kind:=_root_.id rfl
@[simp] theorem ay6 (x:Sign):(ff x).c 1=.int x.part:=_root_.id rfl
@[simp] theorem ay7 (x:Sign):(ff x).c 2=.int x.who:=_root_.id rfl
@[simp] theorem ay8 (x:Sign):(ff x).c 3=.int x.for_:=_root_.id rfl
@[simp] theorem ay9 (x:Sign):(ff x).c 4=.int x.to:=_root_.id rfl
@[simp] theorem aza (x:Sign):(ff x).c 5=.int x.sum:=_root_.id rfl
@[simp] theorem azb (x:Sign):(ff x).c 6=.int x.day:=_root_.id rfl
@[simp] theorem azc (x:Sign):(ff x).c 7=.int x.city:=_root_.id rfl
@[simp] theorem azd (x:Sign):(ff x).c 8=.int x.flags:=_root_.id rfl
def signs (l:List Sign):D:=.list (l.map ff)
@[simp] theorem aD1 (l:List Sign):(signs l).l=l.map ff:=_root_.id rfl
@[simp] theorem aD0 (l:List Sign):(signs l).cells=[signs l]:=_root_.id rfl
abbrev Wj:Ty:=.agg [.int .i64,.int .i64,.int .i64,.int .i64,.int .i64,.int .i64,.int .i64,.int .i64,.int .i64]
def Sign.OK (x:Sign):Prop:=aQ x.kind∧aQ x.part∧aQ x.who∧aQ x.for_∧aQ x.to∧aQ x.sum∧aQ x.day∧aQ x.city∧aQ x.flags
theorem ats {d:D}(h:DTy Wj d):∃x:Sign,d=ff x∧x.OK:=by
 obtain⟨ds,rfl,hs⟩:=h.agg_inv;obtain⟨d0,ds,rfl,h0,hs⟩:=hs.cons_inv;obtain⟨d1,ds,rfl,h1,hs⟩:=hs.cons_inv;obtain⟨d2,ds,rfl,h2,hs⟩:=hs.cons_inv;obtain⟨d3,ds,rfl,h3,hs⟩:=hs.cons_inv;obtain⟨d4,ds,rfl,h4,hs⟩:=hs.cons_inv;obtain⟨d5,ds,rfl,h5,hs⟩:=hs.cons_inv;obtain⟨d6,ds,rfl,h6,hs⟩:=hs.cons_inv;obtain⟨d7,ds,rfl,h7,hs⟩:=hs.cons_inv;obtain⟨d8,ds,rfl,h8,hs⟩:=hs.cons_inv;obtain rfl:=hs.nil_inv;obtain⟨n0,rfl,b0⟩:=h0.i64_inv;obtain⟨n1,rfl,b1⟩:=h1.i64_inv;obtain⟨n2,rfl,b2⟩:=h2.i64_inv;obtain⟨n3,rfl,b3⟩:=h3.i64_inv;obtain⟨n4,rfl,b4⟩:=h4.i64_inv;obtain⟨n5,rfl,b5⟩:=h5.i64_inv;obtain⟨n6,rfl,b6⟩:=h6.i64_inv;obtain⟨n7,rfl,b7⟩:=h7.i64_inv;obtain⟨n8,rfl,b8⟩:=h8.i64_inv;exact⟨⟨n0,n1,n2,n3,n4,n5,n6,n7,n8⟩,rfl,⟨b0,b1,b2,b3,b4,b5,b6,b7,b8⟩⟩
theorem att {d:D}(h:DTy (.slice Wj) d):∃l:List Sign,d=signs l∧l.length≤maxLen∧∀y,y∈l→Sign.OK y:=by
 obtain⟨xs,rfl,hm,hx⟩:=h.slice_inv;obtain⟨l,rfl,hl⟩:=jZ (enc:=ff) (P:=Sign.OK) fun x hh=>ats (hx x hh);exact⟨l,rfl,by simpa using hm,hl⟩
structure Alter where
 at_:Int
 sum:Int
 deriving DecidableEq,Inhabited
def p5 (x:Alter):D:=.agg [.int x.at_,.int x.sum]
@[simp] theorem axa (x:Alter):(p5 x).cells=[.int x.at_,.int x.sum]:=_root_.id rfl
@[simp] theorem aCP (x:Alter):D.agg [.int x.at_,.int x.sum]=p5 x:=_root_.id rfl
@[simp] theorem aw8 (x:Alter):(p5 x).c 0=.int x.at_:=_root_.id rfl
@[simp] theorem aw9 (x:Alter):(p5 x).c 1=.int x.sum:=_root_.id rfl
def alters (l:List Alter):D:=.list (l.map p5)
@[simp] theorem aAd (l:List Alter):(alters l).l=l.map p5:=_root_.id rfl
@[simp] theorem aAc (l:List Alter):(alters l).cells=[alters l]:=_root_.id rfl
abbrev V8:Ty:=.agg [.int .i64,.int .i64]
def Alter.OK (x:Alter):Prop:=aQ x.at_∧aQ x.sum
theorem agS {d:D}(h:DTy V8 d):∃x:Alter,d=p5 x∧x.OK:=by
 obtain⟨ds,rfl,hs⟩:=h.agg_inv;obtain⟨d0,ds,rfl,h0,hs⟩:=hs.cons_inv;obtain⟨d1,ds,rfl,h1,hs⟩:=hs.cons_inv;obtain rfl:=hs.nil_inv;obtain⟨n0,rfl,b0⟩:=h0.i64_inv;obtain⟨n1,rfl,b1⟩:=h1.i64_inv;exact⟨⟨n0,n1⟩,rfl,⟨b0,b1⟩⟩
theorem agT {d:D}(h:DTy (.slice V8) d):∃l:List Alter,d=alters l∧l.length≤maxLen∧∀y,y∈l→Alter.OK y:=by
 obtain⟨xs,rfl,hm,hx⟩:=h.slice_inv;obtain⟨l,rfl,hl⟩:=jZ (enc:=p5) (P:=Alter.OK) fun x hh=>agS (hx x hh);exact⟨l,rfl,by simpa using hm,hl⟩
structure Act where
 kind:Int
 who:Int
 to:Int
 part:Int
 at_:Int
 sum:Int
 day:Int
 city:Int
 form:Int
 deriving DecidableEq,Inhabited
def gY (x:Act):D:=.agg [.int x.kind,.int x.who,.int x.to,.int x.part,.int x.at_,.int x.sum,.int x.day,.int x.city,.int x.form]
@[simp] theorem aw7 (x:Act):(gY x).cells=[.int x.kind,.int x.who,.int x.to,.int x.part,.int x.at_,.int x.sum,.int x.day,.int x.city,.int x.form]:=_root_.id rfl
@[simp] theorem aCO (x:Act):D.agg [.int x.kind,.int x.who,.int x.to,.int x.part,.int x.at_,.int x.sum,.int x.day,.int x.city,.int x.form]=gY x:=_root_.id rfl
@[simp] theorem azZ (x:Act):gV 9 (gY x)=gY x:=_root_.id rfl
@[simp] theorem awY (x:Act):(gY x).c 0=.int x.kind:=_root_.id rfl
@[simp] theorem awZ (x:Act):(gY x).c 1=.int x.who:=_root_.id rfl
@[simp] theorem aw0 (x:Act):(gY x).c 2=.int x.to:=_root_.id rfl
@[simp] theorem aw1 (x:Act):(gY x).c 3=.int x.part:=_root_.id rfl
@[simp] theorem aw2 (x:Act):(gY x).c 4=.int x.at_:=_root_.id rfl
@[simp] theorem aw3 (x:Act):(gY x).c 5=.int x.sum:=_root_.id rfl
@[simp] theorem aw4 (x:Act):(gY x).c 6=.int x.day:=_root_.id rfl
@[simp] theorem aw5 (x:Act):(gY x).c 7=.int x.city:=_root_.id rfl
@[simp] theorem aw6 (x:Act):(gY x).c 8=.int x.form:=_root_.id rfl
def acts (l:List Act):D:=.list (l.map gY)
@[simp] theorem azS (l:List Act):(acts l).l=l.map gY:=_root_.id rfl
@[simp] theorem azR (l:List Act):(acts l).cells=[acts l]:=_root_.id rfl
abbrev V7:Ty:=.agg [.int .i64,.int .i64,.int .i64,.int .i64,.int .i64,.int .i64,.int .i64,.int .i64,.int .i64]
def Act.OK (x:Act):Prop:=aQ x.kind∧aQ x.who∧aQ x.to∧aQ x.part∧aQ x.at_∧aQ x.sum∧aQ x.day∧aQ x.city∧aQ x.form
theorem agK {d:D}(h:DTy V7 d):∃x:Act,d=gY x∧x.OK:=by
 obtain⟨ds,rfl,hs⟩:=h.agg_inv;obtain⟨d0,ds,rfl,h0,hs⟩:=hs.cons_inv;obtain⟨d1,ds,rfl,h1,hs⟩:=hs.cons_inv;obtain⟨d2,ds,rfl,h2,hs⟩:=hs.cons_inv;obtain⟨d3,ds,rfl,h3,hs⟩:=hs.cons_inv;obtain⟨d4,ds,rfl,h4,hs⟩:=hs.cons_inv;obtain⟨d5,ds,rfl,h5,hs⟩:=hs.cons_inv;obtain⟨d6,ds,rfl,h6,hs⟩:=hs.cons_inv;obtain⟨d7,ds,rfl,h7,hs⟩:=hs.cons_inv;obtain⟨d8,ds,rfl,h8,hs⟩:=hs.cons_inv;obtain rfl:=hs.nil_inv;obtain⟨n0,rfl,b0⟩:=h0.i64_inv;obtain⟨n1,rfl,b1⟩:=h1.i64_inv;obtain⟨n2,rfl,b2⟩:=h2.i64_inv;obtain⟨n3,rfl,b3⟩:=h3.i64_inv;obtain⟨n4,rfl,b4⟩:=h4.i64_inv;obtain⟨n5,rfl,b5⟩:=h5.i64_inv;obtain⟨n6,rfl,b6⟩:=h6.i64_inv;obtain⟨n7,rfl,b7⟩:=h7.i64_inv;obtain⟨n8,rfl,b8⟩:=h8.i64_inv;exact⟨⟨n0,n1,n2,n3,n4,n5,n6,n7,n8⟩,rfl,⟨b0,b1,b2,b3,b4,b5,b6,b7,b8⟩⟩
theorem agL {d:D}(h:DTy (.slice V7) d):∃l:List Act,d=acts l∧l.length≤maxLen∧∀y,y∈l→Act.OK y:=by
 obtain⟨xs,rfl,hm,hx⟩:=h.slice_inv;obtain⟨l,rfl,hl⟩:=jZ (enc:=gY) (P:=Act.OK) fun x hh=>agK (hx x hh);exact⟨l,rfl,by simpa using hm,hl⟩
structure Fact where
 kind:Int
 at_:Int
 n:Int
 deriving DecidableEq,Inhabited
def sZ (x:Fact):D:=.agg [.int x.kind,.int x.at_,.int x.n]
@[simp] theorem ax0 (x:Fact):(sZ x).cells=[.int x.kind,.int x.at_,.int x.n]:=_root_.id rfl
@[simp] theorem aCX (x:Fact):D.agg [.int x.kind,.int x.at_,.int x.n]=sZ x:=_root_.id rfl
@[simp] theorem axX (x:Fact):(sZ x).c 0=.int x.kind:=_root_.id rfl
@[simp] theorem axY (x:Fact):(sZ x).c 1=.int x.at_:=_root_.id rfl
@[simp] theorem axZ (x:Fact):(sZ x).c 2=.int x.n:=_root_.id rfl
def facts (l:List Fact):D:=.list (l.map sZ)
@[simp] theorem aBK (l:List Fact):(facts l).l=l.map sZ:=_root_.id rfl
@[simp] theorem aBJ (l:List Fact):(facts l).cells=[facts l]:=_root_.id rfl
abbrev Wb:Ty:=.agg [.int .i64,.int .i64,.int .i64]
def Fact.OK (x:Fact):Prop:=aQ x.kind∧aQ x.at_∧aQ x.n
theorem ajq {d:D}(h:DTy Wb d):∃x:Fact,d=sZ x∧x.OK:=by
 obtain⟨ds,rfl,hs⟩:=h.agg_inv;obtain⟨d0,ds,rfl,h0,hs⟩:=hs.cons_inv;obtain⟨d1,ds,rfl,h1,hs⟩:=hs.cons_inv;obtain⟨d2,ds,rfl,h2,hs⟩:=hs.cons_inv;obtain rfl:=hs.nil_inv;obtain⟨n0,rfl,b0⟩:=h0.i64_inv;obtain⟨n1,rfl,b1⟩:=h1.i64_inv;obtain⟨n2,rfl,b2⟩:=h2.i64_inv;exact⟨⟨n0,n1,n2⟩,rfl,⟨b0,b1,b2⟩⟩
theorem ajr {d:D}(h:DTy (.slice Wb) d):∃l:List Fact,d=facts l∧l.length≤maxLen∧∀y,y∈l→Fact.OK y:=by
 obtain⟨xs,rfl,hm,hx⟩:=h.slice_inv;obtain⟨l,rfl,hl⟩:=jZ (enc:=sZ) (P:=Fact.OK) fun x hh=>ajq (hx x hh);exact⟨l,rfl,by simpa using hm,hl⟩
structure File where
 bill:Bill
 signs:List Sign
 alters:List Alter
 acts:List Act
 facts:List Fact
 deriving Inhabited
def aZ (x:File):D:=.agg [.int x.bill.drawer,.int x.bill.drawee,.int x.bill.payee,.int x.bill.sum,.int x.bill.currency,.int x.bill.tenor.kind,.int x.bill.tenor.n,.int x.bill.tenor.unit,.int x.bill.day,.int x.bill.city,.int x.bill.pay,.int x.bill.need,.int x.bill.rate,.int x.bill.flags,.int x.bill.parts,signs x.signs,alters x.alters,acts x.acts,facts x.facts]
@[simp] theorem ayk (x:File):(aZ x).cells=[.int x.bill.drawer,.int x.bill.drawee,.int x.bill.payee,.int x.bill.sum,.int x.bill.currency,.int x.bill.tenor.kind,.int x.bill.tenor.n,.int x.bill.tenor.unit,.int x.bill.day,.int x.bill.city,.int x.bill.pay,.int x.bill.need,.int x.bill.rate,.int x.bill.flags,.int x.bill.parts,signs x.signs,alters x.alters,acts x.acts,facts x.facts]:=_root_.id rfl
@[simp] theorem aCY (x:File):D.agg [.int x.bill.drawer,.int x.bill.drawee,.int x.bill.payee,.int x.bill.sum,.int x.bill.currency,.int x.bill.tenor.kind,.int x.bill.tenor.n,.int x.bill.tenor.unit,.int x.bill.day,.int x.bill.city,.int x.bill.pay,.int x.bill.need,.int x.bill.rate,.int x.bill.flags,.int x.bill.parts,signs x.signs,alters x.alters,acts x.acts,facts x.facts]=aZ x:=_root_.id rfl
@[simp] theorem az4 (x:File):gV 19 (aZ x)=aZ x:=_root_.id rfl
@[simp] theorem aDq (x:File)(a0 a1 a2 a3 a4 a5 a6 a7 a8 a9 pE pG pH pI pJ sL sM sN sO:D):D.agg (bZ [a0,a1,a2,a3,a4,a5,a6,a7,a8,a9,pE,pG,pH,pI,pJ,sL,sM,sN,sO] 0 [.int x.bill.drawer,.int x.bill.drawee,.int x.bill.payee,.int x.bill.sum,.int x.bill.currency,.int x.bill.tenor.kind,.int x.bill.tenor.n,.int x.bill.tenor.unit,.int x.bill.day,.int x.bill.city,.int x.bill.pay,.int x.bill.need,.int x.bill.rate,.int x.bill.flags,.int x.bill.parts,signs x.signs,alters x.alters,acts x.acts,facts x.facts])=aZ x:=_root_.id rfl
@[simp] theorem ax1 (x:File):(aZ x).c 0=.int x.bill.drawer:=_root_.id rfl
@[simp] theorem ax2 (x:File):(aZ x).c 1=.int x.bill.drawee:=_root_.id rfl
@[simp] theorem ayc (x:File):(aZ x).c 2=.int x.bill.payee:=_root_.id rfl
@[simp] theorem ayd (x:File):(aZ x).c 3=.int x.bill.sum:=_root_.id rfl
@[simp] theorem aye (x:File):(aZ x).c 4=.int x.bill.currency:=_root_.id rfl
@[simp] theorem ayf (x:File):(aZ x).c 5=.int x.bill.tenor.kind:=_root_.id rfl
@[simp] theorem ayg (x:File):(aZ x).c 6=.int x.bill.tenor.n:=_root_.id rfl
@[simp] theorem ayh (x:File):(aZ x).c 7=.int x.bill.tenor.unit:=_root_.id rfl
@[simp] theorem ayi (x:File):(aZ x).c 8=.int x.bill.day:=_root_.id rfl
@[simp] theorem ayj (x:File):(aZ x).c 9=.int x.bill.city:=_root_.id rfl
@[simp] theorem ax3 (x:File):(aZ x).c 10=.int x.bill.pay:=_root_.id rfl
@[simp] theorem ax4 (x:File):(aZ x).c 11=.int x.bill.need:=_root_.id rfl
@[simp] theorem ax5 (x:File):(aZ x).c 12=.int x.bill.rate:=_root_.id rfl
@[simp] theorem ax6 (x:File):(aZ x).c 13=.int x.bill.flags:=_root_.id rfl
@[simp] theorem ax7 (x:File):(aZ x).c 14=.int x.bill.parts:=_root_.id rfl
@[simp] theorem ax8 (x:File):(aZ x).c 15=signs x.signs:=_root_.id rfl
@[simp] theorem ax9 (x:File):(aZ x).c 16=alters x.alters:=_root_.id rfl
@[simp] theorem aya (x:File):(aZ x).c 17=acts x.acts:=_root_.id rfl
@[simp] theorem ayb (x:File):(aZ x).c 18=facts x.facts:=_root_.id rfl
abbrev awt:Ty:=.agg [.int .i64,.int .i64,.int .i64,.int .i64,.int .i64,.int .i64,.int .i64,.int .i64,.int .i64,.int .i64,.int .i64,.int .i64,.int .i64,.int .i64,.int .i64,.slice Wj,.slice V8,.slice V7,.slice Wb]
def File.OK (x:File):Prop:=Bill.OK x.bill∧(x.signs.length≤maxLen∧∀y,y∈x.signs→Sign.OK y)∧(x.alters.length≤maxLen∧∀y,y∈x.alters→Alter.OK y)∧(x.acts.length≤maxLen∧∀y,y∈x.acts→Act.OK y)∧(x.facts.length≤maxLen∧∀y,y∈x.facts→Fact.OK y)
theorem ajs {d:D}(h:DTy awt d):∃x:File,d=aZ x∧x.OK:=by
 obtain⟨ds,rfl,hs⟩:=h.agg_inv;obtain⟨d0,ds,rfl,h0,hs⟩:=hs.cons_inv;obtain⟨d1,ds,rfl,h1,hs⟩:=hs.cons_inv;obtain⟨d2,ds,rfl,h2,hs⟩:=hs.cons_inv;obtain⟨d3,ds,rfl,h3,hs⟩:=hs.cons_inv;obtain⟨d4,ds,rfl,h4,hs⟩:=hs.cons_inv;obtain⟨d5,ds,rfl,h5,hs⟩:=hs.cons_inv;obtain⟨d6,ds,rfl,h6,hs⟩:=hs.cons_inv;obtain⟨d7,ds,rfl,h7,hs⟩:=hs.cons_inv;obtain⟨d8,ds,rfl,h8,hs⟩:=hs.cons_inv;obtain⟨d9,ds,rfl,h9,hs⟩:=hs.cons_inv;obtain⟨d10,ds,rfl,ou,hs⟩:=hs.cons_inv;obtain⟨d11,ds,rfl,tp,hs⟩:=hs.cons_inv;obtain⟨d12,ds,rfl,Ow,hs⟩:=hs.cons_inv;obtain⟨d13,ds,rfl,h13,hs⟩:=hs.cons_inv;obtain⟨d14,ds,rfl,h14,hs⟩:=hs.cons_inv;obtain⟨d15,ds,rfl,I7,hs⟩:=hs.cons_inv;obtain⟨d16,ds,rfl,I8,hs⟩:=hs.cons_inv;obtain⟨d17,ds,rfl,I9,hs⟩:=hs.cons_inv;obtain⟨d18,ds,rfl,Ja,hs⟩:=hs.cons_inv;obtain rfl:=hs.nil_inv;obtain⟨n0,rfl,b0⟩:=h0.i64_inv;obtain⟨n1,rfl,b1⟩:=h1.i64_inv;obtain⟨n2,rfl,b2⟩:=h2.i64_inv;obtain⟨n3,rfl,b3⟩:=h3.i64_inv;obtain⟨n4,rfl,b4⟩:=h4.i64_inv;obtain⟨n5,rfl,b5⟩:=h5.i64_inv;obtain⟨n6,rfl,b6⟩:=h6.i64_inv;obtain⟨n7,rfl,b7⟩:=h7.i64_inv;obtain⟨n8,rfl,b8⟩:=h8.i64_inv;obtain⟨n9,rfl,b9⟩:=h9.i64_inv;obtain⟨n10,rfl,b10⟩:=ou.i64_inv;obtain⟨n11,rfl,b11⟩:=tp.i64_inv;obtain⟨n12,rfl,b12⟩:=Ow.i64_inv;obtain⟨n13,rfl,b13⟩:=h13.i64_inv;obtain⟨n14,rfl,b14⟩:=h14.i64_inv;obtain⟨n15,rfl,b15,c15⟩:=att I7;obtain⟨n16,rfl,b16,c16⟩:=agT I8;obtain⟨n17,rfl,b17,c17⟩:=agL I9;obtain⟨n18,rfl,b18,c18⟩:=ajr Ja;exact⟨⟨⟨n0,n1,n2,n3,n4,⟨n5,n6,n7⟩,n8,n9,n10,n11,n12,n13,n14⟩,n15,n16,n17,n18⟩,rfl,⟨⟨b0,b1,b2,b3,b4,⟨b5,b6,b7⟩,b8,b9,b10,b11,b12,b13,b14⟩,⟨b15,c15⟩,⟨b16,c16⟩,⟨b17,c17⟩,⟨b18,c18⟩⟩⟩
structure Case where
 file:File
 sign:Int
 holder:Int
 defence:Int
 due:Int
 day:Int
 deriving Inhabited
def fH (x:Case):D:=.agg [.int x.file.bill.drawer,.int x.file.bill.drawee,.int x.file.bill.payee,.int x.file.bill.sum,.int x.file.bill.currency,.int x.file.bill.tenor.kind,.int x.file.bill.tenor.n,.int x.file.bill.tenor.unit,.int x.file.bill.day,.int x.file.bill.city,.int x.file.bill.pay,.int x.file.bill.need,.int x.file.bill.rate,.int x.file.bill.flags,.int x.file.bill.parts,signs x.file.signs,alters x.file.alters,acts x.file.acts,facts x.file.facts,.int x.sign,.int x.holder,.int x.defence,.int x.due,.int x.day]
@[simp] theorem axz (x:Case):(fH x).cells=[.int x.file.bill.drawer,.int x.file.bill.drawee,.int x.file.bill.payee,.int x.file.bill.sum,.int x.file.bill.currency,.int x.file.bill.tenor.kind,.int x.file.bill.tenor.n,.int x.file.bill.tenor.unit,.int x.file.bill.day,.int x.file.bill.city,.int x.file.bill.pay,.int x.file.bill.need,.int x.file.bill.rate,.int x.file.bill.flags,.int x.file.bill.parts,signs x.file.signs,alters x.file.alters,acts x.file.acts,facts x.file.facts,.int x.sign,.int x.holder,.int x.defence,.int x.due,.int x.day]:=_root_.id rfl
@[simp] theorem aCR (x:Case):D.agg [.int x.file.bill.drawer,.int x.file.bill.drawee,.int x.file.bill.payee,.int x.file.bill.sum,.int x.file.bill.currency,.int x.file.bill.tenor.kind,.int x.file.bill.tenor.n,.int x.file.bill.tenor.unit,.int x.file.bill.day,.int x.file.bill.city,.int x.file.bill.pay,.int x.file.bill.need,.int x.file.bill.rate,.int x.file.bill.flags,.int x.file.bill.parts,signs x.file.signs,alters x.file.alters,acts x.file.acts,facts x.file.facts,.int x.sign,.int x.holder,.int x.defence,.int x.due,.int x.day]=fH x:=_root_.id rfl
@[simp] theorem agR (x:Case):gV 24 (fH x)=fH x:=_root_.id rfl
@[simp] theorem arB (x:Case)(a0 a1 a2 a3 a4 a5 a6 a7 a8 a9 pE pG pH pI pJ sL sM sN sO MH MI MJ MK ML:D):D.agg (bZ [a0,a1,a2,a3,a4,a5,a6,a7,a8,a9,pE,pG,pH,pI,pJ,sL,sM,sN,sO,MH,MI,MJ,MK,ML] 0 [.int x.file.bill.drawer,.int x.file.bill.drawee,.int x.file.bill.payee,.int x.file.bill.sum,.int x.file.bill.currency,.int x.file.bill.tenor.kind,.int x.file.bill.tenor.n,.int x.file.bill.tenor.unit,.int x.file.bill.day,.int x.file.bill.city,.int x.file.bill.pay,.int x.file.bill.need,.int x.file.bill.rate,.int x.file.bill.flags,.int x.file.bill.parts,signs x.file.signs,alters x.file.alters,acts x.file.acts,facts x.file.facts,.int x.sign,.int x.holder,.int x.defence,.int x.due,.int x.day])=fH x:=_root_.id rfl
@[simp] theorem axy (x:Case):(fH x).c 9=.int x.file.bill.city:=_root_.id rfl
@[simp] theorem axr (x:Case):(fH x).c 10=.int x.file.bill.pay:=_root_.id rfl
@[simp] theorem axs (x:Case):(fH x).c 15=signs x.file.signs:=_root_.id rfl
@[simp] theorem axt (x:Case):(fH x).c 19=.int x.sign:=_root_.id rfl
@[simp] theorem axu (x:Case):(fH x).c 20=.int x.holder:=_root_.id rfl
@[simp] theorem axv (x:Case):(fH x).c 21=.int x.defence:=_root_.id rfl
@[simp] theorem axw (x:Case):(fH x).c 22=.int x.due:=_root_.id rfl
@[simp] theorem axx (x:Case):(fH x).c 23=.int x.day:=_root_.id rfl
def cases(l:List Case):D:=.list (l.map fH)
structure Cell where
 known:Bool
 n:Int
 deriving DecidableEq,Inhabited
def cZ (x:Cell):D:=.agg [.bool x.known,.int x.n]
@[simp] theorem axC (x:Cell):(cZ x).cells=[.bool x.known,.int x.n]:=_root_.id rfl
@[simp] theorem aCS (x:Cell):D.agg [.bool x.known,.int x.n]=cZ x:=_root_.id rfl
@[simp] theorem axA (x:Cell):(cZ x).c 0=.bool x.known:=_root_.id rfl
@[simp] theorem axB (x:Cell):(cZ x).c 1=.int x.n:=_root_.id rfl
def cells (l:List Cell):D:=.list (l.map cZ)
@[simp] theorem aAt (l:List Cell):(cells l).l=l.map cZ:=_root_.id rfl
@[simp] theorem aAs (l:List Cell):(cells l).cells=[cells l]:=_root_.id rfl
structure Said where
 cell:Cell
 order:Int
 path:List Int
 err:Int
 deriving Inhabited
def p8 (x:Said):D:=.agg [.bool x.cell.known,.int x.cell.n,.int x.order,ints x.path,.int x.err]
@[simp] theorem ay1 (x:Said):(p8 x).cells=[.bool x.cell.known,.int x.cell.n,.int x.order,ints x.path,.int x.err]:=_root_.id rfl
@[simp] theorem aC8 (x:Said):D.agg [.bool x.cell.known,.int x.cell.n,.int x.order,ints x.path,.int x.err]=p8 x:=_root_.id rfl
@[simp] theorem az8 (x:Said):gV 5 (p8 x)=p8 x:=_root_.id rfl
structure Effect where
 sign:Int
 kind:Int
 firm:Int
 binds:Int
 text:Int
 sum:Int
 recourse:Bool
 deriving DecidableEq,Inhabited
def mi (x:Effect):D:=.agg [.int x.sign,.int x.kind,.int x.firm,.int x.binds,.int x.text,.int x.sum,.bool x.recourse]
@[simp] theorem axW (x:Effect):(mi x).cells=[.int x.sign,.int x.kind,.int x.firm,.int x.binds,.int x.text,.int x.sum,.bool x.recourse]:=_root_.id rfl
@[simp] theorem aCW (x:Effect):D.agg [.int x.sign,.int x.kind,.int x.firm,.int x.binds,.int x.text,.int x.sum,.bool x.recourse]=mi x:=_root_.id rfl
@[simp] theorem az3 (x:Effect):gV 7 (mi x)=mi x:=_root_.id rfl
@[simp] theorem axP (x:Effect):(mi x).c 0=.int x.sign:=_root_.id rfl
@[simp] theorem axQ (x:Effect):(mi x).c 1=.int x.kind:=_root_.id rfl
@[simp] theorem axR (x:Effect):(mi x).c 2=.int x.firm:=_root_.id rfl
@[simp] theorem axS (x:Effect):(mi x).c 3=.int x.binds:=_root_.id rfl
@[simp] theorem axT (x:Effect):(mi x).c 4=.int x.text:=_root_.id rfl
@[simp] theorem axU (x:Effect):(mi x).c 5=.int x.sum:=_root_.id rfl
@[simp] theorem axV (x:Effect):(mi x).c 6=.bool x.recourse:=_root_.id rfl
def wG (l:List Effect):D:=.list (l.map mi)
@[simp] theorem aAY (l:List Effect):(wG l).l=l.map mi:=_root_.id rfl
@[simp] theorem aEc (a0 x0:D):bZ [a0] 0 [x0]=[x0]:=_root_.id rfl
@[simp] theorem aEd (a0 a1 x0 x1:D):bZ [a0,a1] 0 [x0,x1]=[x0,x1]:=_root_.id rfl
@[simp] theorem aEe (a0 a1 a2 x0 x1 x2:D):bZ [a0,a1,a2] 0 [x0,x1,x2]=[x0,x1,x2]:=_root_.id rfl
@[simp] theorem aEf (a0 a1 a2 a3 x0 x1 x2 x3:D):bZ [a0,a1,a2,a3] 0 [x0,x1,x2,x3]=[x0,x1,x2,x3]:=_root_.id rfl
@[simp] theorem aEg (a0 a1 a2 a3 a4 x0 x1 x2 x3 x4:D):bZ [a0,a1,a2,a3,a4] 0 [x0,x1,x2,x3,x4]=[x0,x1,x2,x3,x4]:=_root_.id rfl
@[simp] theorem aEh (a0 a1 a2 a3 a4 a5 x0 x1 x2 x3 x4 x5:D):bZ [a0,a1,a2,a3,a4,a5] 0 [x0,x1,x2,x3,x4,x5]=[x0,x1,x2,x3,x4,x5]:=_root_.id rfl
@[simp] theorem aEi (a0 a1 a2 a3 a4 a5 a6 x0 x1 x2 x3 x4 x5 x6:D):bZ [a0,a1,a2,a3,a4,a5,a6] 0 [x0,x1,x2,x3,x4,x5,x6]=[x0,x1,x2,x3,x4,x5,x6]:=_root_.id rfl
@[simp] theorem aEj (a0 a1 a2 a3 a4 a5 a6 a7 a8 x0 x1 x2 x3 x4 x5 x6 x7 x8:D):bZ [a0,a1,a2,a3,a4,a5,a6,a7,a8] 0 [x0,x1,x2,x3,x4,x5,x6,x7,x8]=[x0,x1,x2,x3,x4,x5,x6,x7,x8]:=_root_.id rfl
end Rm
set_option maxRecDepth 100000
namespace Rm
open Go Go.Proofs Cx
abbrev I:Ty:=.int .i64
abbrev Y0:Ty:=.agg [.str,I,I,(.slice I),(.slice I),(.slice I)]
abbrev Y1:Ty:=.agg [I]
abbrev Y2:Ty:=.agg [.str,I,I]
abbrev Y3:Ty:=.agg [I,I,.bool]
abbrev Y4:Ty:=.agg [I,I,I,(.slice .trm)]
abbrev Y5:Ty:=.agg [.str,.bool,(.slice Y3),(.slice Y4)]
abbrev Y6:Ty:=.agg [I,I,I]
abbrev Y7:Ty:=.agg [I,I,I,I,I]
abbrev Y8:Ty:=.agg [(.slice .str),(.slice Y0),(.slice Y1),(.slice Y2),(.slice Y5),(.slice Y6),(.slice Y7),(.slice Y6)]
abbrev Y9:Ty:=.agg [I,I,I,I,I,I,I,I,I]
abbrev qZ:Ty:=.agg [I,I]
abbrev cL:Ty:=.agg [I,I,I,I,I,I,I,I,I,I,I,I,I,I,I,(.slice Y9),(.slice qZ),(.slice Y9),(.slice Y6)]
abbrev ko:Ty:=.agg [I,I,I,I,I,(.slice Y3)]
abbrev Y13:Ty:=.agg [(.slice I),I,I,.bool,I,(.slice I)]
abbrev W5:Ty:=.agg [I,I,I,I,I,I,.bool]
abbrev Cy:Ty:=.agg [.bool,I,I,(.slice I),I]
abbrev G8:Ty:=.agg [(.slice .str),(.slice Y0),(.slice Y1),(.slice Y2),(.slice Y5),(.slice Y6),(.slice Y7),(.slice Y6),I,I,I,I,I,I,I,I,I,I,I,I,I,I,I,I,I,(.slice Y9),(.slice qZ),(.slice Y9),(.slice Y6),I,I]
abbrev q6:Ty:=.agg [I,I,I,I,I,I,I,I,I,I,I,I,I,I,I,(.slice Y9),(.slice qZ),(.slice Y9),(.slice Y6),I,I,I,I,I]
abbrev G9:Ty:=.agg [I,I,I,I,I,I,I,I,I,I,I,I,I,I,I]
abbrev sK:Ty:=.agg [I,I,(.slice .trm)]
abbrev lC:Ty:=.agg [.bool,I]
abbrev W6:Ty:=.agg [(.slice lC)]
abbrev Y22:Ty:=.agg [(.slice I),I]
def vN:List (Nat×Sig):=[
 (6,⟨[Y8,I,I,cL,ko,I],.bool,.dat⟩),
 (7,⟨[],.bool,.dat⟩),
 (8,⟨[Y8,cL,ko],.bool,.dat⟩),
 (9,⟨[Y8,I,cL,ko,I],(.tup [cL,I]),.dat⟩),
 (12,⟨[cL,I,I],Y13,.dat⟩),
 (13,⟨[cL,I],cL,(.rows [.dat I,.dat I,.dat I,.dat I,.dat I,.dat I,.dat I,.dat I,.dat I,.dat I,.dat I,.dat I,.dat I,.dat I,.dat I,.row 71 Y9,.row 87 qZ,.row 78 Y9,.row 97 Y6])⟩),
 (14,⟨[cL,I,I],.bool,.dat⟩),
 (16,⟨[Y8,I,cL,ko,I],I,.dat⟩),
 (17,⟨[Y8,cL,ko],I,.dat⟩),
 (18,⟨[Y8,I,cL,I],(.slice W5),.dat⟩),
 (19,⟨[cL,cL],.bool,.dat⟩),
 (20,⟨[],(.tup [Y8,cL,ko]),.dat⟩),
 (21,⟨[Y8,cL],.bool,.dat⟩),
 (22,⟨[Y8],I,.dat⟩),
 (23,⟨[(.slice I),I],.bool,.dat⟩),
 (26,⟨[I,I,I],.bool,.dat⟩),
 (29,⟨[cL,I],(.tup [I,.bool]),.dat⟩),
 (30,⟨[cL,I,I],(.fn [(.fn [I,Y9] .bool)] (.tup [])),.dat⟩),
 (31,⟨[I,I],I,.dat⟩),
 (32,⟨[I,I],.bool,.dat⟩),
 (33,⟨[cL,I],(.map I .bool),.dat⟩),
 (34,⟨[Cy],I,.dat⟩),
 (35,⟨[Y8,I,I,cL,I],Cy,.dat⟩),
 (36,⟨[Y8,cL],I,.dat⟩),
 (37,⟨[Y3,(.ref Y8)],.bool,.dat⟩),
 (38,⟨[Y8,I],.bool,.dat⟩),
 (39,⟨[(.ref ko),(.ref cL)],.bool,.dat⟩),
 (40,⟨[(.ref Y8),(.ref ko)],.bool,.dat⟩),
 (41,⟨[(.ref ko)],.bool,.dat⟩),
 (42,⟨[(.ref ko),(.ref (.fn [Y3] .bool))],.bool,.dat⟩),
 (43,⟨[(.slice Y3),(.fn [Y3] .bool)],.bool,.dat⟩),
 (44,⟨[(.ref cL),(.ref ko)],.bool,.dat⟩),
 (45,⟨[cL,ko],.bool,.dat⟩),
 (46,⟨[Y8,I,cL,I],G8,.dat⟩),
 (47,⟨[G8,I],W5,.dat⟩),
 (48,⟨[Y8],.bool,.dat⟩),
 (49,⟨[cL],.bool,.dat⟩),
 (50,⟨[Y5],.bool,.dat⟩),
 (51,⟨[Y8],I,.dat⟩),
 (52,⟨[Y8],I,.dat⟩),
 (53,⟨[Y8],I,.dat⟩),
 (54,⟨[Y8],I,.dat⟩),
 (55,⟨[Y8],I,.dat⟩),
 (56,⟨[(.slice I),I],I,.dat⟩),
 (65,⟨[Y8,I,I,q6],Cy,.dat⟩),
 (66,⟨[Y8,G9],I,.dat⟩),
 (67,⟨[Y8,cL,I],I,.dat⟩),
 (68,⟨[I,I,I],.bool,.dat⟩),
 (69,⟨[Y8,cL],I,.dat⟩),
 (70,⟨[cL],I,.dat⟩),
 (71,⟨[(.slice Y3),(.fn [Y3] .bool)],I,.dat⟩),
 (72,⟨[Cy],I,.dat⟩),
 (73,⟨[Y8,I,cL,I],I,.dat⟩),
 (74,⟨[(.slice I)],I,.dat⟩),
 (75,⟨[G8,I,I],I,.dat⟩),
 (76,⟨[G8,I],(.tup [I,I]),.dat⟩),
 (77,⟨[sK],.bool,.dat⟩),
 (78,⟨[(.slice .str),I],I,.dat⟩),
 (79,⟨[Y8,Y0],.bool,.dat⟩),
 (80,⟨[Y5],.bool,.dat⟩),
 (83,⟨[Y8,I,I,q6],(.tup [Cy,(.slice lC)]),.dat⟩),
 (84,⟨[Y5,I,(.slice lC)],(.tup [lC,I]),.dat⟩),
 (85,⟨[Y8],I,.dat⟩),
 (86,⟨[I,I],.bool,.dat⟩),
 (87,⟨[G9],.bool,.dat⟩),
 (88,⟨[Y8,I,I],(.tup [I,I]),.dat⟩),
 (89,⟨[Y8,cL,I],.bool,.dat⟩),
 (90,⟨[Y8,cL,Y9],.bool,.dat⟩),
 (91,⟨[(.slice I)],I,.dat⟩),
 (92,⟨[I,I],I,.dat⟩),
 (93,⟨[Y8,G9,I,I],(.tup [I,I]),.dat⟩),
 (94,⟨[cL],I,.dat⟩),
 (95,⟨[cL,I],I,.dat⟩),
 (96,⟨[sK,I,I],I,.dat⟩),
 (97,⟨[.str],.bool,.dat⟩),
 (98,⟨[(.slice .str),I,.str],.bool,.dat⟩),
 (99,⟨[(.slice I),I,I],.bool,.dat⟩),
 (100,⟨[Y8,q6],(.tup [q6,(.slice lC)]),.dat⟩),
 (101,⟨[I],(.tup [I,.bool]),.dat⟩),
 (102,⟨[Y8,I,q6],(.nsl I),.dat⟩),
 (103,⟨[Y8,I,I,(.slice I)],(.tup [(.slice I),I]),.dat⟩),
 (104,⟨[Y5,I],(.tup [sK,I]),.dat⟩),
 (105,⟨[sK,(.slice lC)],lC,.dat⟩),
 (106,⟨[Y8],(.tup [(.slice .str),(.slice .str),(.slice .str)]),.dat⟩),
 (107,⟨[(.slice .str),I,(.fn [I] .bool)],I,.dat⟩),
 (108,⟨[I],.bool,.dat⟩),
 (109,⟨[I,(.ref Y8)],.bool,.dat⟩),
 (110,⟨[Y8,Y0],.bool,.dat⟩),
 (111,⟨[I,I],.bool,.dat⟩),
 (112,⟨[I,(.ref Y8)],.bool,.dat⟩),
 (113,⟨[I,(.ref Y8)],.bool,.dat⟩),
 (114,⟨[Y5],.bool,.dat⟩),
 (115,⟨[Y8],I,.dat⟩),
 (116,⟨[Y8],I,.dat⟩),
 (117,⟨[cL,I,(.slice I)],.bool,.dat⟩),
 (118,⟨[cL,I,I],.bool,.dat⟩),
 (119,⟨[I],.bool,.dat⟩),
 (120,⟨[Y8,I],.bool,.dat⟩),
 (121,⟨[I],.bool,.dat⟩),
 (122,⟨[Y6],.bool,.dat⟩),
 (123,⟨[Y8,G9,I],(.tup [I,I]),.dat⟩),
 (124,⟨[Y8,I,I],(.tup [I,I]),.dat⟩),
 (125,⟨[(.slice I)],I,.dat⟩),
 (126,⟨[(.int .u8)],.bool,.dat⟩),
 (127,⟨[Y8,q6],(.slice lC),.dat⟩),
 (128,⟨[Y8,I],I,.dat⟩),
 (129,⟨[Y8,I,I,(.slice I)],.bool,.dat⟩),
 (130,⟨[Y8,I,I,(.slice I)],(.tup [I,.bool]),.dat⟩),
 (131,⟨[(.slice Y4),(.fn [Y4] .bool)],I,.dat⟩),
 (132,⟨[Y4,(.ref I)],.bool,.dat⟩),
 (133,⟨[sK],(.tup [I,I]),.dat⟩),
 (134,⟨[W6,sK],(.tup [lC,(.slice I)]),.dat⟩),
 (135,⟨[(.slice .str),I],I,.dat⟩),
 (136,⟨[(.slice I),I,I],.bool,.dat⟩),
 (137,⟨[I,Y6],(.tup [I,I]),.dat⟩),
 (138,⟨[Y8,I,I],I,.dat⟩),
 (139,⟨[Y0,I],(.tup [I,I]),.dat⟩),
 (140,⟨[(.slice qZ),(.fn [qZ] .bool)],.bool,.dat⟩),
 (141,⟨[qZ,(.ref q6)],.bool,.dat⟩),
 (142,⟨[.bool],lC,.dat⟩),
 (143,⟨[cL,I,I],lC,.dat⟩),
 (144,⟨[(.slice I),(.fn [I] .bool)],.bool,.dat⟩),
 (145,⟨[I,(.ref I)],.bool,.dat⟩),
 (146,⟨[sK,I],I,.dat⟩),
 (147,⟨[sK],(.tup [I,I]),.dat⟩),
 (148,⟨[W6,I],lC,.dat⟩),
 (149,⟨[I,(.slice lC)],lC,.dat⟩),
 (150,⟨[(.slice (.slice I))],(.slice I),.dat⟩),
 (151,⟨[.str],.bool,.dat⟩),
 (152,⟨[(.slice .str),.str],.bool,.dat⟩),
 (153,⟨[I,I],(.tup [I,I]),.dat⟩),
 (154,⟨[I],.bool,.dat⟩),
 (155,⟨[Y0,I,I],(.fn [(.fn [I] .bool)] (.tup [])),.dat⟩),
 (156,⟨[(.slice qZ),(.fn [qZ] .bool)],I,.dat⟩),
 (157,⟨[(.slice I),(.fn [I] .bool)],I,.dat⟩),
 (158,⟨[sK],(.tup [I,I]),.dat⟩),
 (159,⟨[I],Y22,.dat⟩),
 (160,⟨[I],(.tup [I,.bool]),.dat⟩),
 (161,⟨[.bool],lC,.dat⟩),
 (162,⟨[I],I,.dat⟩),
 (163,⟨[I,I,I],I,.dat⟩),
 (164,⟨[.nils .bool,I],(.slice I),(.row 3 I)⟩),
 (165,⟨[(.slice .str),.str],I,.dat⟩),
 (166,⟨[I],(.tup [I,I,I]),.dat⟩),
 (167,⟨[I,I,I],(.tup [I,I]),.dat⟩),
 (168,⟨[I,I],I,.dat⟩),
 (170,⟨[Y0,I],.bool,.dat⟩),
 (171,⟨[I,I],I,.dat⟩),
 (172,⟨[I,I,I],I,.dat⟩),
 (173,⟨[(.int .u64),(.int .u64)],(.tup [(.int .u64),(.int .u64)]),.dat⟩)]
def NM:List (Nat×CSig):=[
 (37,⟨[(.ref Y8)],[Y3],.bool⟩),
 (39,⟨[(.ref ko),(.ref cL)],[],.bool⟩),
 (40,⟨[(.ref Y8),(.ref ko)],[],.bool⟩),
 (41,⟨[(.ref ko)],[],.bool⟩),
 (42,⟨[(.ref ko),(.ref (.fn [Y3] .bool))],[],.bool⟩),
 (44,⟨[(.ref cL),(.ref ko)],[],.bool⟩),
 (64,⟨[(.ref cL),(.ref I),(.ref I)],[(.fn [I,Y9] .bool)],(.tup [])⟩),
 (108,⟨[],[I],.bool⟩),
 (109,⟨[(.ref Y8)],[I],.bool⟩),
 (112,⟨[(.ref Y8)],[I],.bool⟩),
 (113,⟨[(.ref Y8)],[I],.bool⟩),
 (132,⟨[(.ref I)],[Y4],.bool⟩),
 (141,⟨[(.ref q6)],[qZ],.bool⟩),
 (145,⟨[(.ref I)],[I],.bool⟩),
 (169,⟨[(.ref I),(.ref I),(.ref Y0)],[(.fn [I] .bool)],(.tup [])⟩)]
def ctx:Ctx:={P:=Tryz.prog,cap:=bI NM,sig:=bI vN,aqs:=fun _=>none,glob:=TJ 0 [6,7,10,12,13,14,15,16,20,21]}
abbrev LV (i:Nat):Sig:=(bI vN i).getD default
def cF (a b:List Nat)(f:Func)(i:Nat)(l:List Nat):Option PC:=mh {ctx with fr:=a,nh:=b} f (LV i) l
theorem aV {o:Option PC}{t:PT}{l:List (Shp×PT)}(h:o.map told=some (t,l)):tree (ab o)=t:=bB (F:=fun _=>(t,l)) h
theorem ax (o:Option PC){p:PT×List (Shp×PT)}(h:o.map told=some p):o=some (ab o):=at2 (F:=fun _=>p) h
theorem aA (l a b:List Nat){f:Nat}{fn:Func}{c:PC}(h0:ctx.P.funcs[f]?=some fn)(h1:ctx.sig f=some (LV f))(h2:mh {ctx with fr:=a,nh:=b} fn (LV f) l=some c):∃fn s ids fr nh,ctx.P.funcs[f]?=some fn∧ctx.sig f=some s∧mh {ctx with fr:=fr,nh:=nh} fn s ids=some c:=⟨fn,LV f,l,a,b,h0,h1,h2⟩
abbrev xY:PE:=.ai .quo .i64 (bE (aL (bE (.ai .rem .i64 (aL r0 (pi 730425)) (pi 146097)) (.ai .quo .i64 (.ai .rem .i64 (aL r0 (pi 730425)) (pi 146097)) (pi 1460))) (.ai .quo .i64 (.ai .rem .i64 (aL r0 (pi 730425)) (pi 146097)) (pi 36524))) (.ai .quo .i64 (.ai .rem .i64 (aL r0 (pi 730425)) (pi 146097)) (pi 146096))) (pi 365)
abbrev j6:PE:=.con (.agg [(.int 0),(.int 0),(.int 0),(.int 0),(.int 0),(.int 0),(.int 0),(.int 0),(.int 0),(.int 0),(.int 0),(.int 0),(.int 0),(.int 0),(.int 0),(.list []),(.list []),(.list []),(.list [])])
abbrev Fe:PE:=.setc (.con (.agg [(.list []),(.list []),(.list []),(.list []),(.list []),(.list []),(.list []),(.list [])])) 0 (.mk [(.lst [(.con (.v (.string ⟨#[102,114,97,110,99]⟩)))]),(.lst [(.mk [(.con (.v (.string ⟨#[76,121,111,110]⟩))),(pi 0),(pi 0),pL,pL,pL])]),(.lst [(.mk [(pi 0)])]),(.lst [(.mk [(.con (.v (.string ⟨#[66,111,100,109,101,114]⟩))),(pi 0),(pi 0)]),(.mk [(.con (.v (.string ⟨#[72,111,112,101]⟩))),(pi 0),(pi 0)]),(.mk [(.con (.v (.string ⟨#[82,105,99,99,105]⟩))),(pi 0),(pi 0)])]),(.lst [(.mk [(pc (.setc (.con (.agg [(.v (.string ⟨#[]⟩)),(.bool false),(.list []),(.list [])])) 0 (.mk [(.con (.v (.string ⟨#[103,101,110,101,118,97]⟩))),pF,pL,(.lst [(.mk [(pi 20),(.mk [(pi 0),(pi 30),pL])])])])) 0),(pc (.setc (.con (.agg [(.v (.string ⟨#[]⟩)),(.bool false),(.list []),(.list [])])) 0 (.mk [(.con (.v (.string ⟨#[103,101,110,101,118,97]⟩))),pF,pL,(.lst [(.mk [(pi 20),(.mk [(pi 0),(pi 30),pL])])])])) 1),pL,(pc (.setc (.con (.agg [(.v (.string ⟨#[]⟩)),(.bool false),(.list []),(.list [])])) 0 (.mk [(.con (.v (.string ⟨#[103,101,110,101,118,97]⟩))),pF,pL,(.lst [(.mk [(pi 20),(.mk [(pi 0),(pi 30),pL])])])])) 3)])]),pL,pL,pL])
abbrev ye:PE:=au 7 (.pick (.pick (.pick (aj (pc (.setc z9 0 (pn (pc xN 15) cv)) 0) (pi 2)) (aj (pc (.setc z9 0 (pn (pc xN 15) cv)) 1) (pc bO 1)) pF) (aX (pc (.setc z9 0 (pn (pc xN 15) cv)) 6) (pc bO 3)) pF) (.setc (.setc (.con (.agg [(.int 0),(.int 0),(.int 0),(.int 0),(.int 0),(.int 0),(.bool false)])) 0 (pn fA cv)) 3 (pi 0)) (.setc (.con (.agg [(.int 0),(.int 0),(.int 0),(.int 0),(.int 0),(.int 0),(.bool false)])) 0 (pn fA cv)))
abbrev lT:PE:=.setc (.setc (.setc j6 0 (.mk [(.mk [(pi 0),(pi 1),(pi 2),(pi 500),(pi 0),z3,(pi 2),(pi 0),(pi 0),(pi (-1)),(pi 0),(pi 0),(pi 1)]),pL,pL,pL,pL])) 15 pN) 15 pN
abbrev gk:PE:=.con (.agg [(.bool false),(.int 0)])
abbrev K4:PE:=.ai .quo .i64 (aL (.ai .mul .i64 (pi 5) (bE (.ai .rem .i64 (aL r0 (pi 730425)) (pi 146097)) (bE (aL (.ai .mul .i64 (pi 365) xY) (.ai .quo .i64 xY (pi 4))) (.ai .quo .i64 xY (pi 100))))) (pi 2)) (pi 153)
abbrev rX:PE:=.deref (.con (.ref (.agg [(.int 6),(.int 7),(.int 10),(.int 12),(.int 13),(.int 14),(.int 15),(.int 16),(.int 20),(.int 21)])))
abbrev lq:PE:=.setc z3 0 (.mk [(pc (.mk [r0]) 5),(pc (.mk [r0]) 6),(pc (.mk [r0]) 7)])
abbrev lO:PE:=.setc bO 0 (.mk [GS,pL,pL,pL,pL])
abbrev KW:PE:=.put (.put (.put (.put (.con (.map [])) (pi 7) (aO (.ai .and .i64 (pc o6 13) (pi 1)) (pi 0))) (pi 8) (aj (pc o6 2) (pi (-1)))) (pi 9) (aO (.ai .and .i64 (pc o6 13) (pi 4)) (pi 0))) (pi 10) (aO (.ai .and .i64 (pc o6 13) (pi 2)) (pi 0))
abbrev RP:PE:=.mk [(pc (.mk [r0]) 10),(pc (.mk [r0]) 11),(pc (.mk [r0]) 12),(pc (.mk [r0]) 13),(pc (.mk [r0]) 14),(pc (.mk [r0]) 15),(pc (.mk [r0]) 16),(pc (.mk [r0]) 17),(pc (.mk [r0]) 18),(pc (.mk [r0]) 19),(pc (.mk [r0]) 20),(pc (.mk [r0]) 21),(pc (.mk [r0]) 22),(pc (.mk [r0]) 23),(pc (.mk [r0]) 24),(pc (.mk [r0]) 25),(pc (.mk [r0]) 26),(pc (.mk [r0]) 27),(pc (.mk [r0]) 28)]
abbrev mN:PE:=.con (.agg [(.int 0),(.int 0),(.list [])])
abbrev RS:PE:=.con (.agg [(.list []),(.list []),(.list []),(.list []),(.list []),(.list []),(.list []),(.list []),(.int 0),(.int 0),(.int 0),(.int 0),(.int 0),(.int 0),(.int 0),(.int 0),(.int 0),(.int 0),(.int 0),(.int 0),(.int 0),(.int 0),(.int 0),(.int 0),(.int 0),(.list []),(.list []),(.list []),(.list []),(.int 0),(.int 0)])
abbrev cu:PE:=pi 4294967296
abbrev tV:PE:=.con (.agg [(.int 0),(.int 0),(.bool false)])
abbrev Fb:PE:=.setc (.con (.agg [(.int 0),(.int 0),(.int 0),(.int 0),(.int 0),(.list [])])) 0 (.mk [(pi 0),(pi 0),(pi 2),(pi 10),(pi 12),pL])
abbrev lP:PE:=.con (.agg [(.list []),(.int 0)])
abbrev adT:PE:=.pick (.pick (.pick (aj (pc (.setc z9 0 (pn bH cI)) 0) (pi 2)) (aj (pc (.setc z9 0 (pn bH cI)) 1) (.deref r3)) pF) (bD (pc (.setc z9 0 (pn bH cI)) 6) (.deref r2)) pF) (.nt (.look r5 cI pF)) pF
abbrev oQ:PE:=.setc z9 0 (pn (pc (.mk [r1]) 15) r2)
abbrev lQ:PE:=.setc bO 0 (.setc jz 17 pN)
abbrev BG:PE:=.mk [(pc (.setc gk 0 ei) 0),(pc (.setc gk 0 ei) 1)]
abbrev adU:PE:=.lst [(.mk [(.clo 39 [(.ref (au 6 o5)),(.ref (au 19 o4))]),(pi 15)]),(.mk [(.clo 40 [(.ref (au 8 o3)),(.ref (au 6 o5))]),(pi 1)]),(.mk [(.clo 41 [(.ref (au 6 o5))]),(pi 6)]),(.mk [(.clo 42 [(.ref (au 6 o5)),(.ref (pc (.setc (.con (.agg [(.v .nilFunc)])) 0 (.clo 37 [(.ref (au 8 o3))])) 0))]),(pi 1)]),(.mk [(.clo 44 [(.ref (au 19 o4)),(.ref (au 6 o5))]),(pi 13)])]
abbrev BH:PE:=.setc z9 0 (pn (pc (.mk [r2]) 15) (pc (.mk [r2]) 19))
abbrev j7:PE:=.setc (.mk [r3]) 18 pL
abbrev RT:PE:=.put (.put (.put (.con (.map [])) (pi 0) (pc o6 3)) (pi 1) (pc o6 14)) (pi 2) (pc o6 5)
abbrev KX:PE:=.pick (.pick (aj (.tget qE 0) (pi 0)) (pc bO 0) pF) (.setc bO 1 (.mn (.mx (pc bO 1) (pi 0)) (pi 20000))) bO
abbrev Fc:PE:=.mk [(pc (.setc o4 0 (.mk [pF,(pi 0)])) 0),(pc (.setc o4 0 (.mk [pF,(pi 0)])) 1)]
abbrev BI:PE:=.con (.agg [(.bool false),(.int 0),(.int 0),(.list []),(.int 0)])
abbrev adV:PE:=.ai .add .u64 (.ai .mul .u64 (.ai .shr .u64 r0 (.con (.v (.int .u64 32)))) (.ai .and .u64 r1 (.con (.v (.int .u64 4294967295))))) (.ai .shr .u64 (.ai .mul .u64 (.ai .and .u64 r0 (.con (.v (.int .u64 4294967295)))) (.ai .and .u64 r1 (.con (.v (.int .u64 4294967295))))) (.con (.v (.int .u64 32))))
abbrev yd:PE:=.setc (.setc bO 3 (.tget BP 0)) 4 (.tget BP 1)
abbrev j8:PE:=au 15 (.mk [r1])
abbrev jA:PE:=au 8 (.mk [r0])
abbrev tW:PE:=pc (.mk [r0]) 2
abbrev lj:PE:=au 15 (.mk [r0])
abbrev KY:PE:=aL (bE (aL (.ai .mul .i64 (pi 12) (.tget fV 0)) (.tget fV 1)) (pi 1)) r1
abbrev adW:PE:=.con (.agg [(.int 0),(.int 0),(.int 0),(.int 0),(.int 0),(.int 0),(.int 0),(.int 0),(.int 0),(.int 0),(.int 0),(.int 0),(.int 0),(.int 0),(.int 0),(.list []),(.list []),(.list []),(.list []),(.int 0),(.int 0),(.int 0),(.int 0),(.int 0)])
abbrev KZ:PE:=.con (.agg [(.list []),(.int 0),(.int 0),(.bool false),(.int 0),(.list [])])
abbrev adX:PE:=.mk [(pc lO 0),(pc lO 1),(pc lO 2),(pc lO 3),(pc lO 4),(pc lO 5),(pc lO 6),(pc lO 7),(pc lO 8),(pc lO 9),(pc lO 10),(pc lO 11),(pc lO 12),(pc lO 13),(pc lO 14),pL,pL,pL,pL]
abbrev ln:PE:=pc (.mk [r0]) 0
abbrev RU:PE:=.con (.agg [(.list []),(.list []),(.list []),(.list []),(.list []),(.list []),(.list []),(.list [])])
abbrev lR:PE:=.llen (pc o1 1)
abbrev K0:PE:=.mk [(pc o3 0),(pc o3 1),(pc o3 2),(pc o3 3),(pc o3 4),(.o 24579)]
abbrev RV:PE:=.mk [(pc (.setc o4 0 (.mk [(pi 0),(pi 0),pL])) 0),(pc (.setc o4 0 (.mk [(pi 0),(pi 0),pL])) 1),pL]
abbrev adY:PE:=.app pL (.lst [(.mk [(pi 0),(pi 0),(pi 0),(pi (-1)),(pi (-1)),(pi 0),(pi 2),(pi 0),(pi 0)])])
abbrev BJ:PE:=.setc z3 0 (pn bH cI)
abbrev lS:PE:=.setc o4 0 o5
abbrev nH:PE:=.llen (pc o1 3)
abbrev oR:PE:=pc (.mk [r0]) 15
abbrev adZ:PE:=.pick (.pick (aj (.tget eB 0) (.con (.v (.int .u64 0)))) (ah (.tget eB 1) (.con (.v (.int .u64 1099511627776)))) pF) (.conv .i64 (.tget eB 1)) (pi 1099511627776)
abbrev RW:PE:=au 5 (.setc o8 0 (.mk [(pc bO 0),(pc bO 1),(pc bO 2),(.o 16394),(pc bO 4)]))
abbrev oS:PE:=.llen (pc o3 2)
abbrev oT:PE:=.llen (pc o1 4)
abbrev tX:PE:=pn (pc o5 17) (pi 0)
abbrev ad0:PE:=.pick (.pick (.pick (ah (pc BH 2) (pi 0)) pT (cS (pc BH 2) (.llen (pc (.mk [r0]) 3)))) pT (ah r1 (pi 0))) pT (cS r1 (.llen (pc (.mk [r0]) 4)))
abbrev RX:PE:=.put (.con (.map [])) (pi 7) (aO (.ai .and .i64 (pc o6 13) (pi 1)) (pi 0))
abbrev Ff:PE:=.setc z9 0 (pn (pc (.mk [r0]) 25) r1)
abbrev BK:PE:=.setc (.setc o7 1 lU) 3 se
abbrev ad1:PE:=.app o2 (.lst [(pc (.setc (.con (.agg [(.v (.string ⟨#[]⟩)),(.int 0),(.int 0),(.list []),(.list []),(.list [])])) 0 (pn bH cI)) 0)])
abbrev yf:PE:=.setc z9 0 (pn bJ cU)
abbrev ad2:PE:=.pick (.nt (.nt (.an (.an adT pT) (.nt pF)))) (.app (.o 1000) (.lst [(.tup [cI,(au 9 (.setc z9 0 (pn bH cI)))])])) (.o 1000)
abbrev Fg:PE:=bE (pi 2) (pc (pn o7 (pi 0)) 1)
abbrev K1:PE:=.setc mN 0 (.sub (pn (pc o2 3) fV) 1 3)
abbrev rV:PE:=.llen (pc o1 2)
abbrev tY:PE:=pn (pc o3 17) r7
abbrev tZ:PE:=pn (pc o3 15) r5
abbrev ua:PE:=pn (pc o2 17) r7
abbrev ub:PE:=pn (pc o2 15) r5
abbrev nI:PE:=ah cI cU
abbrev K5:PE:=.pick (ah r1 (pi 3)) (bE r0 (pi 1)) r0
abbrev ad3:PE:=.app o4 (.lst [(pc (.setc (.con (.agg [(.v (.string ⟨#[]⟩)),(.bool false),(.list []),(.list [])])) 0 (pn gC qG)) 0)])
abbrev rW:PE:=aL r8 (pi 1)
abbrev BL:PE:=.con (.v (.int .u64 32))
abbrev ad4:PE:=.app xM (.lst [(.mk [(pi 7),(pc o8 2),(pi (-1)),(pc o8 1),jB,(pi 0),r4,(pc (pn (pc o5 3) (pc o8 2)) 1),(pi 0)])])
abbrev ad5:PE:=.put (.put (.put KW (pi 11) (aO R4 R5)) (pi 12) cU) (pi 13) (aO (.ai .and .i64 (pc o8 8) (pi 1)) (pi 0))
abbrev uc:PE:=pc (.mk [r0]) 1
abbrev qC:PE:=pn r1 (pi 1)
abbrev BM:PE:=.con (.agg [(.int 0)])
abbrev RY:PE:=.put (.put RT (pi 3) (pc o6 12)) (pi 4) (pc o8 0)
abbrev ad6:PE:=.pick (aX (.llen (pc (pn (pc o1 1) r3) 4)) (pi 70)) pT (aX (.llen (pc (pn (pc o1 1) r3) 5)) (pi 210))
abbrev Fh:PE:=.setc tV 0 (pn fV iv)
abbrev RZ:PE:=.pick (.nt (pc o7 3)) (aO (pc mK 2) (pc o7 1)) pF
abbrev qD:PE:=.llen tW
abbrev ad7:PE:=.app o3 (.lst [(pc (.setc (.con (.agg [(.v (.string ⟨#[]⟩)),(.int 0),(.int 0)])) 0 (pn iv ei)) 0)])
abbrev ad8:PE:=.app o4 (.lst [(pc (.setc (.con (.agg [(.int 0),(.int 0),(.int 0),(.list [])])) 0 (pn ei nL)) 0)])
abbrev vB:PE:=.llen (pc o1 0)
abbrev ad9:PE:=.an (.cb .eql (pc (pn r1 (pi 0)) 0) (pc BG 0)) (.an (aj (pc (pn r1 (pi 0)) 1) (pc BG 1)) pT)
abbrev aea:PE:=.app (.o 69637) (.lst [(.mk [(pc (.setc z2 0 (pn se sf)) 0),(pc (.setc z2 0 (pn se sf)) 1)])])
abbrev R0:PE:=.setc o4 0 (.mk [(pc o9 0),(pc o9 1),(pc o9 2)])
abbrev R1:PE:=.setc (.setc o6 4 (.tget nN 0)) 5 (.tget nN 1)
abbrev aeb:PE:=.app adY (.lst [(.mk [(pi 2),(pi 0),(pi 2),(pi (-1)),(pi 1),(pi 0),(pi 20),(pi 0),(pi 0)])])
abbrev Fi:PE:=aX (pc mK 6) (pc o8 0)
abbrev aec:PE:=.setc (.con (.agg [(.int 0),(.int 0),(.int 0),(.int 0),(.int 0),(.list [])])) 0 (.tget bH 2)
abbrev aed:PE:=.pick (.nt (.nt (.an (.an cI pT) (.nt pF)))) (.app (.o 1000) (.lst [(.tup [r5])])) (.o 1000)
abbrev vC:PE:=aL r3 (pi 1)
abbrev BN:PE:=aO (pi 100) (pi 0)
abbrev aee:PE:=.pick (aX (aL K4 (pi 3)) (pi 12)) (bE (aL K4 (pi 3)) (pi 12)) (aL K4 (pi 3))
abbrev aef:PE:=.setc o4 0 (.mk [(pc (.setc gk 0 (.tget iX 0)) 0),(pc (.setc gk 0 (.tget iX 0)) 1)])
abbrev Fj:PE:=.setc z9 0 (pn R6 iY)
abbrev KT:PE:=.setc gk 0 (.mk [pT,(pi 1)])
abbrev KU:PE:=.setc gk 0 (.mk [pT,(pi 0)])
abbrev KV:PE:=bE (.llen (pc o3 3)) (pi 1)
abbrev xZ:PE:=pn (pc o1 4) r4
abbrev RM:PE:=aj (.sidx r0 r3) (.con (.v (.int .u8 95)))
abbrev x9:PE:=pc (.mk [r0]) 5
abbrev adK:PE:=.pick (.pick (aj (pc BJ 0) r1) (bD (pc BJ 1) r2) pF) (bD r2 (pc BJ 2)) pF
abbrev ya:PE:=.mk [pF,(pi 0)]
abbrev yb:PE:=.llen (pc o1 7)
abbrev adL:PE:=aL xY (.ai .mul .i64 (pi 400) (.ai .quo .i64 (aL r0 (pi 730425)) (pi 146097)))
abbrev rU:PE:=pn cI dI
abbrev adM:PE:=.con (.agg [(.int 0),(.int 0),(.int 0),(.int 0),(.int 0),(.int 0),(.bool false)])
abbrev RN:PE:=.app o5 (.lst [(pc (pn (pc o1 1) r6) 0)])
abbrev RO:PE:=.app o4 (.lst [(pc (pn (pc o1 3) r5) 0)])
abbrev yc:PE:=aL r5 (pi 1)
abbrev BA:PE:=pi 1099511627776
abbrev BB:PE:=pc (.mk [r0]) 18
abbrev BC:PE:=pc (.mk [r0]) 17
abbrev tU:PE:=pn cO bH
abbrev BD:PE:=pc (.mk [r0]) 4
abbrev BE:PE:=aL cI (pi 1)
abbrev RQ:PE:=.pick (cS r0 (pi 0)) (ah r0 r1) pF
abbrev BF:PE:=.llen (pc o1 5)
abbrev adN:PE:=.setc o4 0 (.mk [(pc (.setc gk 0 K8) 0),(pc (.setc gk 0 K8) 1)])
abbrev adO:PE:=.setc o4 0 (.mk [(pc (.setc gk 0 j9) 0),(pc (.setc gk 0 j9) 1)])
abbrev adP:PE:=.setc (.con (.agg [(.v .nilFunc),(.int 0)])) 0 (.sub (pn o28 nM) 0 2)
abbrev adQ:PE:=.setc lP 0 (.mk [(.lst [(pi 1),(pi (-1)),(pi (-1))]),(pi (-1))])
abbrev adR:PE:=.pick (aO (pc o3 22) (pi (-1))) (bE (pc o8 6) (pc o3 22)) (pi 0)
abbrev RR:PE:=.ai .rem .i64 (pn r8 cO) (pi 100)
abbrev E9:PE:=au 19 (.mk [r2])
abbrev Fa:PE:=au 19 (.mk [r1])
abbrev adS:PE:=.app (.o 77829) (.lst [(.mk [(pc jz 0),(pc jz 1),(pc jz 2)])])
end Rm
