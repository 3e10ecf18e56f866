/-
  Shared texts of this claim.
-/
import Derived.Test.YtmnnipoiigfapaaGreatDoorHAJ
import Derived.Test.YtmnnipoiigfapaaGreatDoorProg
set_option linter.unusedSimpArgs false
set_option linter.unusedVariables false
noncomputable section
namespace Rm
open Go Cx
abbrev str (b:ByteArray):D:=.v (.string b)
def strs (l:List ByteArray):D:=.list (l.map str)
@[simp] theorem arj (l:List ByteArray):(strs l).l=l.map str:=_root_.id rfl
theorem str_inv {d:D}(h:DTy .str d):∃b,d=str b:=by
 cases h with
 |str b=>exact⟨b,rfl⟩
 |other t d h=>exact h.elim
theorem ari {d:D}(h:DTy (.slice .str) d):∃l:List ByteArray,d=strs l∧l.length≤maxLen:=by
 obtain⟨xs,rfl,hm,hx⟩:=h.slice_inv;obtain⟨l,rfl,hl⟩:=jW (enc:=str) (P:=fun _=>True) fun x hh=>(str_inv (hx x hh)).imp fun b hb=>⟨hb,trivial⟩
 exact⟨l,rfl,by simpa using hm⟩
@[simp] theorem awM (t:Tm):(dO t).cells=[.int t.op,.int t.n,.list (t.args.map dO)]:=by rw[CC];rfl
@[simp] theorem awN (t:Tm):D.agg [.int t.op,.int t.n,.list (t.args.map dO)]=dO t:=(CC t).symm
@[simp] theorem awJ (t:Tm):(dO t).c 0=.int t.op:=by rw[CC];rfl
@[simp] theorem awK (t:Tm):(dO t).c 1=.int t.n:=by rw[CC];rfl
@[simp] theorem awL (t:Tm):(dO t).c 2=.list (t.args.map dO):=by rw[CC];rfl
structure City where
 name:ByteArray
 order:Int
 currency:Int
 rest:List Int
 feasts:List Int
 shut:List Int
 deriving Inhabited
def lj (x:City):D:=.agg [str x.name,.int x.order,.int x.currency,ints x.rest,ints x.feasts,ints x.shut]
@[simp] theorem avq (x:City):(lj x).cells=[str x.name,.int x.order,.int x.currency,ints x.rest,ints x.feasts,ints x.shut]:=_root_.id rfl
@[simp] theorem azU (x:City):D.agg [str x.name,.int x.order,.int x.currency,ints x.rest,ints x.feasts,ints x.shut]=lj x:=_root_.id rfl
@[simp] theorem avk (x:City):(lj x).c 0=str x.name:=_root_.id rfl
@[simp] theorem avl (x:City):(lj x).c 1=.int x.order:=_root_.id rfl
@[simp] theorem avm (x:City):(lj x).c 2=.int x.currency:=_root_.id rfl
@[simp] theorem avn (x:City):(lj x).c 3=ints x.rest:=_root_.id rfl
@[simp] theorem avo (x:City):(lj x).c 4=ints x.feasts:=_root_.id rfl
@[simp] theorem avp (x:City):(lj x).c 5=ints x.shut:=_root_.id rfl
def wj (l:List City):D:=.list (l.map lj)
@[simp] theorem axw (l:List City):(wj l).l=l.map lj:=_root_.id rfl
abbrev UK:Ty:=.agg [.str,.int .i64,.int .i64,.slice (.int .i64),.slice (.int .i64),.slice (.int .i64)]
def City.OK (x:City):Prop:=aN x.order∧aN x.currency∧(x.rest.length≤maxLen∧∀y,y∈x.rest→aN y)∧(x.feasts.length≤maxLen∧∀y,y∈x.feasts→aN y)∧(x.shut.length≤maxLen∧∀y,y∈x.shut→aN y)
theorem afD {d:D}(h:DTy UK d):∃x:City,d=lj x∧x.OK:=by
 obtain⟨ds,rfl,hs⟩:=h.agg_inv;obtain⟨d0,ds,rfl,h0,hs⟩:=hs.cons_inv;obtain⟨d1,ds,rfl,h1,hs⟩:=hs.cons_inv;obtain⟨d2,ds,rfl,h2,hs⟩:=hs.cons_inv;obtain⟨d3,ds,rfl,h3,hs⟩:=hs.cons_inv;obtain⟨d4,ds,rfl,h4,hs⟩:=hs.cons_inv;obtain⟨d5,ds,rfl,h5,hs⟩:=hs.cons_inv;obtain rfl:=hs.nil_inv;obtain⟨n0,rfl⟩:=str_inv h0;obtain⟨n1,rfl,b1⟩:=h1.i64_inv;obtain⟨n2,rfl,b2⟩:=h2.i64_inv;obtain⟨n3,rfl,b3,c3⟩:=h3.ints_inv;obtain⟨n4,rfl,b4,c4⟩:=h4.ints_inv;obtain⟨n5,rfl,b5,c5⟩:=h5.ints_inv;exact⟨⟨n0,n1,n2,n3,n4,n5⟩,rfl,⟨b1,b2,⟨b3,c3⟩,⟨b4,c4⟩,⟨b5,c5⟩⟩⟩
theorem afE {d:D}(h:DTy (.slice UK) d):∃l:List City,d=wj l∧l.length≤maxLen∧∀y,y∈l→City.OK y:=by
 obtain⟨xs,rfl,hm,hx⟩:=h.slice_inv;obtain⟨l,rfl,hl⟩:=jW (enc:=lj) (P:=City.OK) fun x hh=>afD (hx x hh);exact⟨l,rfl,by simpa using hm,hl⟩
structure Firm where
 name:ByteArray
 city:Int
 group:Int
 deriving Inhabited
def sw (x:Firm):D:=.agg [str x.name,.int x.city,.int x.group]
@[simp] theorem avS (x:Firm):(sw x).cells=[str x.name,.int x.city,.int x.group]:=_root_.id rfl
@[simp] theorem azX (x:Firm):D.agg [str x.name,.int x.city,.int x.group]=sw x:=_root_.id rfl
@[simp] theorem avP (x:Firm):(sw x).c 0=str x.name:=_root_.id rfl
@[simp] theorem avQ (x:Firm):(sw x).c 1=.int x.city:=_root_.id rfl
@[simp] theorem avR (x:Firm):(sw x).c 2=.int x.group:=_root_.id rfl
def firms (l:List Firm):D:=.list (l.map sw)
@[simp] theorem ayN (l:List Firm):(firms l).l=l.map sw:=_root_.id rfl
abbrev UM:Ty:=.agg [.str,.int .i64,.int .i64]
def Firm.OK (x:Firm):Prop:=aN x.city∧aN x.group
theorem ahk {d:D}(h:DTy UM d):∃x:Firm,d=sw x∧x.OK:=by
 obtain⟨ds,rfl,hs⟩:=h.agg_inv;obtain⟨d0,ds,rfl,h0,hs⟩:=hs.cons_inv;obtain⟨d1,ds,rfl,h1,hs⟩:=hs.cons_inv;obtain⟨d2,ds,rfl,h2,hs⟩:=hs.cons_inv;obtain rfl:=hs.nil_inv;obtain⟨n0,rfl⟩:=str_inv h0;obtain⟨n1,rfl,b1⟩:=h1.i64_inv;obtain⟨n2,rfl,b2⟩:=h2.i64_inv;exact⟨⟨n0,n1,n2⟩,rfl,⟨b1,b2⟩⟩
theorem ahl {d:D}(h:DTy (.slice UM) d):∃l:List Firm,d=firms l∧l.length≤maxLen∧∀y,y∈l→Firm.OK y:=by
 obtain⟨xs,rfl,hm,hx⟩:=h.slice_inv;obtain⟨l,rfl,hl⟩:=jW (enc:=sw) (P:=Firm.OK) fun x hh=>ahk (hx x hh);exact⟨l,rfl,by simpa using hm,hl⟩
structure Group where
 grade:Int
 deriving DecidableEq,Inhabited
def wv (x:Group):D:=.agg [.int x.grade]
@[simp] theorem avU (x:Group):(wv x).cells=[.int x.grade]:=_root_.id rfl
@[simp] theorem azY (x:Group):D.agg [.int x.grade]=wv x:=_root_.id rfl
@[simp] theorem avT (x:Group):(wv x).c 0=.int x.grade:=_root_.id rfl
def groups (l:List Group):D:=.list (l.map wv)
@[simp] theorem ayW (l:List Group):(groups l).l=l.map wv:=_root_.id rfl
abbrev UN:Ty:=.agg [.int .i64]
def Group.OK (x:Group):Prop:=aN x.grade
theorem aiI {d:D}(h:DTy UN d):∃x:Group,d=wv x∧x.OK:=by
 obtain⟨ds,rfl,hs⟩:=h.agg_inv;obtain⟨d0,ds,rfl,h0,hs⟩:=hs.cons_inv;obtain rfl:=hs.nil_inv;obtain⟨n0,rfl,b0⟩:=h0.i64_inv;exact⟨⟨n0⟩,rfl,b0⟩
theorem aiJ {d:D}(h:DTy (.slice UN) d):∃l:List Group,d=groups l∧l.length≤maxLen∧∀y,y∈l→Group.OK y:=by
 obtain⟨xs,rfl,hm,hx⟩:=h.slice_inv;obtain⟨l,rfl,hl⟩:=jW (enc:=wv) (P:=Group.OK) fun x hh=>aiI (hx x hh);exact⟨l,rfl,by simpa using hm,hl⟩
structure Usance where
 fr:Int
 to:Int
 days:Int
 deriving DecidableEq,Inhabited
def sC (x:Usance):D:=.agg [.int x.fr,.int x.to,.int x.days]
@[simp] theorem awV (x:Usance):(sC x).cells=[.int x.fr,.int x.to,.int x.days]:=_root_.id rfl
@[simp] theorem aAa (x:Usance):D.agg [.int x.fr,.int x.to,.int x.days]=sC x:=_root_.id rfl
@[simp] theorem awS (x:Usance):(sC x).c 0=.int x.fr:=_root_.id rfl
@[simp] theorem awT (x:Usance):(sC x).c 1=.int x.to:=_root_.id rfl
@[simp] theorem awU (x:Usance):(sC x).c 2=.int x.days:=_root_.id rfl
def usances (l:List Usance):D:=.list (l.map sC)
@[simp] theorem aA9 (l:List Usance):(usances l).l=l.map sC:=_root_.id rfl
abbrev UU:Ty:=.agg [.int .i64,.int .i64,.int .i64]
def Usance.OK (x:Usance):Prop:=aN x.fr∧aN x.to∧aN x.days
theorem at6 {d:D}(h:DTy UU d):∃x:Usance,d=sC x∧x.OK:=by
 obtain⟨ds,rfl,hs⟩:=h.agg_inv;obtain⟨d0,ds,rfl,h0,hs⟩:=hs.cons_inv;obtain⟨d1,ds,rfl,h1,hs⟩:=hs.cons_inv;obtain⟨d2,ds,rfl,h2,hs⟩:=hs.cons_inv;obtain rfl:=hs.nil_inv;obtain⟨n0,rfl,b0⟩:=h0.i64_inv;obtain⟨n1,rfl,b1⟩:=h1.i64_inv;obtain⟨n2,rfl,b2⟩:=h2.i64_inv;exact⟨⟨n0,n1,n2⟩,rfl,⟨b0,b1,b2⟩⟩
theorem at7 {d:D}(h:DTy (.slice UU) d):∃l:List Usance,d=usances l∧l.length≤maxLen∧∀y,y∈l→Usance.OK y:=by
 obtain⟨xs,rfl,hm,hx⟩:=h.slice_inv;obtain⟨l,rfl,hl⟩:=jW (enc:=sC) (P:=Usance.OK) fun x hh=>at6 (hx x hh);exact⟨l,rfl,by simpa using hm,hl⟩
structure Rate where
 fr:Int
 to:Int
 num:Int
 den:Int
 since:Int
 deriving DecidableEq,Inhabited
def pD (x:Rate):D:=.agg [.int x.fr,.int x.to,.int x.num,.int x.den,.int x.since]
@[simp] theorem awj (x:Rate):(pD x).cells=[.int x.fr,.int x.to,.int x.num,.int x.den,.int x.since]:=_root_.id rfl
@[simp] theorem az3 (x:Rate):D.agg [.int x.fr,.int x.to,.int x.num,.int x.den,.int x.since]=pD x:=_root_.id rfl
@[simp] theorem awe (x:Rate):(pD x).c 0=.int x.fr:=_root_.id rfl
@[simp] theorem awf (x:Rate):(pD x).c 1=.int x.to:=_root_.id rfl
@[simp] theorem awg (x:Rate):(pD x).c 2=.int x.num:=_root_.id rfl
@[simp] theorem awh (x:Rate):(pD x).c 3=.int x.den:=_root_.id rfl
@[simp] theorem awi (x:Rate):(pD x).c 4=.int x.since:=_root_.id rfl
def rates (l:List Rate):D:=.list (l.map pD)
@[simp] theorem aAA (l:List Rate):(rates l).l=l.map pD:=_root_.id rfl
abbrev UR:Ty:=.agg [.int .i64,.int .i64,.int .i64,.int .i64,.int .i64]
def Rate.OK (x:Rate):Prop:=aN x.fr∧aN x.to∧aN x.num∧aN x.den∧aN x.since
theorem aqi {d:D}(h:DTy UR d):∃x:Rate,d=pD x∧x.OK:=by
 obtain⟨ds,rfl,hs⟩:=h.agg_inv;obtain⟨d0,ds,rfl,h0,hs⟩:=hs.cons_inv;obtain⟨d1,ds,rfl,h1,hs⟩:=hs.cons_inv;obtain⟨d2,ds,rfl,h2,hs⟩:=hs.cons_inv;obtain⟨d3,ds,rfl,h3,hs⟩:=hs.cons_inv;obtain⟨d4,ds,rfl,h4,hs⟩:=hs.cons_inv;obtain rfl:=hs.nil_inv;obtain⟨n0,rfl,b0⟩:=h0.i64_inv;obtain⟨n1,rfl,b1⟩:=h1.i64_inv;obtain⟨n2,rfl,b2⟩:=h2.i64_inv;obtain⟨n3,rfl,b3⟩:=h3.i64_inv;obtain⟨n4,rfl,b4⟩:=h4.i64_inv;exact⟨⟨n0,n1,n2,n3,n4⟩,rfl,⟨b0,b1,b2,b3,b4⟩⟩
theorem aqj {d:D}(h:DTy (.slice UR) d):∃l:List Rate,d=rates l∧l.length≤maxLen∧∀y,y∈l→Rate.OK y:=by
 obtain⟨xs,rfl,hm,hx⟩:=h.slice_inv;obtain⟨l,rfl,hl⟩:=jW (enc:=pD) (P:=Rate.OK) fun x hh=>aqi (hx x hh);exact⟨l,rfl,by simpa using hm,hl⟩
structure Halt where
 order:Int
 fr:Int
 to:Int
 deriving DecidableEq,Inhabited
def sy (x:Halt):D:=.agg [.int x.order,.int x.fr,.int x.to]
@[simp] theorem avY (x:Halt):(sy x).cells=[.int x.order,.int x.fr,.int x.to]:=_root_.id rfl
@[simp] theorem azZ (x:Halt):D.agg [.int x.order,.int x.fr,.int x.to]=sy x:=_root_.id rfl
@[simp] theorem avV (x:Halt):(sy x).c 0=.int x.order:=_root_.id rfl
@[simp] theorem avW (x:Halt):(sy x).c 1=.int x.fr:=_root_.id rfl
@[simp] theorem avX (x:Halt):(sy x).c 2=.int x.to:=_root_.id rfl
def halts (l:List Halt):D:=.list (l.map sy)
@[simp] theorem ay5 (l:List Halt):(halts l).l=l.map sy:=_root_.id rfl
abbrev UO:Ty:=.agg [.int .i64,.int .i64,.int .i64]
def Halt.OK (x:Halt):Prop:=aN x.order∧aN x.fr∧aN x.to
theorem aja {d:D}(h:DTy UO d):∃x:Halt,d=sy x∧x.OK:=by
 obtain⟨ds,rfl,hs⟩:=h.agg_inv;obtain⟨d0,ds,rfl,h0,hs⟩:=hs.cons_inv;obtain⟨d1,ds,rfl,h1,hs⟩:=hs.cons_inv;obtain⟨d2,ds,rfl,h2,hs⟩:=hs.cons_inv;obtain rfl:=hs.nil_inv;obtain⟨n0,rfl,b0⟩:=h0.i64_inv;obtain⟨n1,rfl,b1⟩:=h1.i64_inv;obtain⟨n2,rfl,b2⟩:=h2.i64_inv;exact⟨⟨n0,n1,n2⟩,rfl,⟨b0,b1,b2⟩⟩
theorem ajb {d:D}(h:DTy (.slice UO) d):∃l:List Halt,d=halts l∧l.length≤maxLen∧∀y,y∈l→Halt.OK y:=by
 obtain⟨xs,rfl,hm,hx⟩:=h.slice_inv;obtain⟨l,rfl,hl⟩:=jW (enc:=sy) (P:=Halt.OK) fun x hh=>aja (hx x hh);exact⟨l,rfl,by simpa using hm,hl⟩
structure Choice where
 ask:Int
 by_:Int
 whole:Bool
 deriving DecidableEq,Inhabited
def uf (x:Choice):D:=.agg [.int x.ask,.int x.by_,.bool x.whole]
@[simp] theorem avj (x:Choice):(uf x).cells=[.int x.ask,.int x.by_,.bool x.whole]:=_root_.id rfl
@[simp] theorem azT (x:Choice):D.agg [.int x.ask,.int x.by_,.bool x.whole]=uf x:=_root_.id rfl
@[simp] theorem avh (x:Choice):(uf x).c 0=.int x.ask:=_root_.id rfl
@[simp] theorem avi (x:Choice):(uf x).c 1=.int x.by_:=_root_.id rfl
def choices (l:List Choice):D:=.list (l.map uf)
@[simp] theorem axv (l:List Choice):(choices l).l=l.map uf:=_root_.id rfl
abbrev UJ:Ty:=.agg [.int .i64,.int .i64,.bool]
def Choice.OK (x:Choice):Prop:=aN x.ask∧aN x.by_
theorem afA {d:D}(h:DTy UJ d):∃x:Choice,d=uf x∧x.OK:=by
 obtain⟨ds,rfl,hs⟩:=h.agg_inv;obtain⟨d0,ds,rfl,h0,hs⟩:=hs.cons_inv;obtain⟨d1,ds,rfl,h1,hs⟩:=hs.cons_inv;obtain⟨d2,ds,rfl,h2,hs⟩:=hs.cons_inv;obtain rfl:=hs.nil_inv;obtain⟨n0,rfl,b0⟩:=h0.i64_inv;obtain⟨n1,rfl,b1⟩:=h1.i64_inv;obtain⟨n2,rfl⟩:=h2.bool_inv;exact⟨⟨n0,n1,n2⟩,rfl,⟨b0,b1⟩⟩
theorem afB {d:D}(h:DTy (.slice UJ) d):∃l:List Choice,d=choices l∧l.length≤maxLen∧∀y,y∈l→Choice.OK y:=by
 obtain⟨xs,rfl,hm,hx⟩:=h.slice_inv;obtain⟨l,rfl,hl⟩:=jW (enc:=uf) (P:=Choice.OK) fun x hh=>afA (hx x hh);exact⟨l,rfl,by simpa using hm,hl⟩
structure Rule where
 ask:Int
 term:Tm
 deriving Inhabited
def sA (x:Rule):D:=.agg [.int x.ask,.int x.term.op,.int x.term.n,.list (x.term.args.map dO)]
@[simp] theorem awu (x:Rule):(sA x).cells=[.int x.ask,.int x.term.op,.int x.term.n,.list (x.term.args.map dO)]:=_root_.id rfl
@[simp] theorem az5 (x:Rule):D.agg [.int x.ask,.int x.term.op,.int x.term.n,.list (x.term.args.map dO)]=sA x:=_root_.id rfl
@[simp] theorem awt (x:Rule):(sA x).c 0=.int x.ask:=_root_.id rfl
def rules (l:List Rule):D:=.list (l.map sA)
@[simp] theorem aAF (l:List Rule):(rules l).l=l.map sA:=_root_.id rfl
abbrev US:Ty:=.agg [.int .i64,.int .i64,.int .i64,.slice .trm]
def Rule.OK (x:Rule):Prop:=aN x.ask∧Tm.OK x.term
theorem aqP {d:D}(h:DTy US d):∃x:Rule,d=sA x∧x.OK:=by
 obtain⟨ds,rfl,hs⟩:=h.agg_inv;obtain⟨d0,ds,rfl,h0,hs⟩:=hs.cons_inv;obtain⟨d1,ds,rfl,h1,hs⟩:=hs.cons_inv;obtain⟨d2,ds,rfl,h2,hs⟩:=hs.cons_inv;obtain⟨d3,ds,rfl,h3,hs⟩:=hs.cons_inv;obtain rfl:=hs.nil_inv;obtain⟨n0,rfl,b0⟩:=h0.i64_inv;obtain⟨n1,rfl,b1⟩:=h1.i64_inv;obtain⟨n2,rfl,b2⟩:=h2.i64_inv;obtain⟨n3,rfl,b3,c3⟩:=h3.trms_inv;exact⟨⟨n0,.mk n1 n2 n3⟩,rfl,⟨b0,.mk _ _ _ b1 b2 b3 c3⟩⟩
theorem aqQ {d:D}(h:DTy (.slice US) d):∃l:List Rule,d=rules l∧l.length≤maxLen∧∀y,y∈l→Rule.OK y:=by
 obtain⟨xs,rfl,hm,hx⟩:=h.slice_inv;obtain⟨l,rfl,hl⟩:=jW (enc:=sA) (P:=Rule.OK) fun x hh=>aqP (hx x hh);exact⟨l,rfl,by simpa using hm,hl⟩
structure Order where
 name:ByteArray
 accepts:Bool
 choices:List Choice
 rules:List Rule
 deriving Inhabited
def jJ (x:Order):D:=.agg [str x.name,.bool x.accepts,choices x.choices,rules x.rules]
@[simp] theorem awd (x:Order):(jJ x).cells=[str x.name,.bool x.accepts,choices x.choices,rules x.rules]:=_root_.id rfl
@[simp] theorem az2 (x:Order):D.agg [str x.name,.bool x.accepts,choices x.choices,rules x.rules]=jJ x:=_root_.id rfl
@[simp] theorem aw8 (x:Order):ke 4 (jJ x)=jJ x:=_root_.id rfl
@[simp] theorem av9 (x:Order):(jJ x).c 0=str x.name:=_root_.id rfl
@[simp] theorem awa (x:Order):(jJ x).c 1=.bool x.accepts:=_root_.id rfl
@[simp] theorem awb (x:Order):(jJ x).c 2=choices x.choices:=_root_.id rfl
@[simp] theorem awc (x:Order):(jJ x).c 3=rules x.rules:=_root_.id rfl
def orders (l:List Order):D:=.list (l.map jJ)
@[simp] theorem aAl (l:List Order):(orders l).l=l.map jJ:=_root_.id rfl
abbrev UQ:Ty:=.agg [.str,.bool,.slice UJ,.slice US]
def Order.OK (x:Order):Prop:=(x.choices.length≤maxLen∧∀y,y∈x.choices→Choice.OK y)∧(x.rules.length≤maxLen∧∀y,y∈x.rules→Rule.OK y)
theorem ao1 {d:D}(h:DTy UQ d):∃x:Order,d=jJ x∧x.OK:=by
 obtain⟨ds,rfl,hs⟩:=h.agg_inv;obtain⟨d0,ds,rfl,h0,hs⟩:=hs.cons_inv;obtain⟨d1,ds,rfl,h1,hs⟩:=hs.cons_inv;obtain⟨d2,ds,rfl,h2,hs⟩:=hs.cons_inv;obtain⟨d3,ds,rfl,h3,hs⟩:=hs.cons_inv;obtain rfl:=hs.nil_inv;obtain⟨n0,rfl⟩:=str_inv h0;obtain⟨n1,rfl⟩:=h1.bool_inv;obtain⟨n2,rfl,b2,c2⟩:=afB h2;obtain⟨n3,rfl,b3,c3⟩:=aqQ h3;exact⟨⟨n0,n1,n2,n3⟩,rfl,⟨⟨b2,c2⟩,⟨b3,c3⟩⟩⟩
theorem ao2 {d:D}(h:DTy (.slice UQ) d):∃l:List Order,d=orders l∧l.length≤maxLen∧∀y,y∈l→Order.OK y:=by
 obtain⟨xs,rfl,hm,hx⟩:=h.slice_inv;obtain⟨l,rfl,hl⟩:=jW (enc:=jJ) (P:=Order.OK) fun x hh=>ao1 (hx x hh);exact⟨l,rfl,by simpa using hm,hl⟩
structure Realm where
 currencies:List ByteArray
 cities:List City
 groups:List Group
 firms:List Firm
 orders:List Order
 usances:List Usance
 rates:List Rate
 halts:List Halt
 deriving Inhabited
def aZ (x:Realm):D:=.agg [strs x.currencies,wj x.cities,groups x.groups,firms x.firms,orders x.orders,usances x.usances,rates x.rates,halts x.halts]
@[simp] theorem aws (x:Realm):(aZ x).cells=[strs x.currencies,wj x.cities,groups x.groups,firms x.firms,orders x.orders,usances x.usances,rates x.rates,halts x.halts]:=_root_.id rfl
@[simp] theorem az4 (x:Realm):D.agg [strs x.currencies,wj x.cities,groups x.groups,firms x.firms,orders x.orders,usances x.usances,rates x.rates,halts x.halts]=aZ x:=_root_.id rfl
@[simp] theorem aw9 (x:Realm):ke 8 (aZ x)=aZ x:=_root_.id rfl
@[simp] theorem aAp (x:Realm)(a0 a1 a2 a3 a4 a5 a6 a7:D):D.agg (bO [a0,a1,a2,a3,a4,a5,a6,a7] 0 [strs x.currencies,wj x.cities,groups x.groups,firms x.firms,orders x.orders,usances x.usances,rates x.rates,halts x.halts])=aZ x:=_root_.id rfl
@[simp] theorem awk (x:Realm):(aZ x).c 0=strs x.currencies:=_root_.id rfl
@[simp] theorem awl (x:Realm):(aZ x).c 1=wj x.cities:=_root_.id rfl
@[simp] theorem awm (x:Realm):(aZ x).c 2=groups x.groups:=_root_.id rfl
@[simp] theorem awn (x:Realm):(aZ x).c 3=firms x.firms:=_root_.id rfl
@[simp] theorem awo (x:Realm):(aZ x).c 4=orders x.orders:=_root_.id rfl
@[simp] theorem awp (x:Realm):(aZ x).c 5=usances x.usances:=_root_.id rfl
@[simp] theorem awq (x:Realm):(aZ x).c 6=rates x.rates:=_root_.id rfl
@[simp] theorem awr (x:Realm):(aZ x).c 7=halts x.halts:=_root_.id rfl
abbrev atZ:Ty:=.agg [.slice .str,.slice UK,.slice UN,.slice UM,.slice UQ,.slice UU,.slice UR,.slice UO]
def Realm.OK (x:Realm):Prop:=x.currencies.length≤maxLen∧(x.cities.length≤maxLen∧∀y,y∈x.cities→City.OK y)∧(x.groups.length≤maxLen∧∀y,y∈x.groups→Group.OK y)∧(x.firms.length≤maxLen∧∀y,y∈x.firms→Firm.OK y)∧(x.orders.length≤maxLen∧∀y,y∈x.orders→Order.OK y)∧(x.usances.length≤maxLen∧∀y,y∈x.usances→Usance.OK y)∧(x.rates.length≤maxLen∧∀y,y∈x.rates→Rate.OK y)∧(x.halts.length≤maxLen∧∀y,y∈x.halts→Halt.OK y)
theorem aqt {d:D}(h:DTy atZ d):∃x:Realm,d=aZ x∧x.OK:=by
 obtain⟨ds,rfl,hs⟩:=h.agg_inv;obtain⟨d0,ds,rfl,h0,hs⟩:=hs.cons_inv;obtain⟨d1,ds,rfl,h1,hs⟩:=hs.cons_inv;obtain⟨d2,ds,rfl,h2,hs⟩:=hs.cons_inv;obtain⟨d3,ds,rfl,h3,hs⟩:=hs.cons_inv;obtain⟨d4,ds,rfl,h4,hs⟩:=hs.cons_inv;obtain⟨d5,ds,rfl,h5,hs⟩:=hs.cons_inv;obtain⟨d6,ds,rfl,h6,hs⟩:=hs.cons_inv;obtain⟨d7,ds,rfl,h7,hs⟩:=hs.cons_inv;obtain rfl:=hs.nil_inv;obtain⟨n0,rfl,b0⟩:=ari h0;obtain⟨n1,rfl,b1,c1⟩:=afE h1;obtain⟨n2,rfl,b2,c2⟩:=aiJ h2;obtain⟨n3,rfl,b3,c3⟩:=ahl h3;obtain⟨n4,rfl,b4,c4⟩:=ao2 h4;obtain⟨n5,rfl,b5,c5⟩:=at7 h5;obtain⟨n6,rfl,b6,c6⟩:=aqj h6;obtain⟨n7,rfl,b7,c7⟩:=ajb h7;exact⟨⟨n0,n1,n2,n3,n4,n5,n6,n7⟩,rfl,⟨b0,⟨b1,c1⟩,⟨b2,c2⟩,⟨b3,c3⟩,⟨b4,c4⟩,⟨b5,c5⟩,⟨b6,c6⟩,⟨b7,c7⟩⟩⟩
structure Tenor where
 kind:Int
 n:Int
 unit:Int
 deriving DecidableEq,Inhabited
def CD (x:Tenor):D:=.agg [.int x.kind,.int x.n,.int x.unit]
@[simp] theorem awR (x:Tenor):(CD x).cells=[.int x.kind,.int x.n,.int x.unit]:=_root_.id rfl
@[simp] theorem az9 (x:Tenor):D.agg [.int x.kind,.int x.n,.int x.unit]=CD x:=_root_.id rfl
@[simp] theorem awO (x:Tenor):(CD x).c 0=.int x.kind:=_root_.id rfl
@[simp] theorem awP (x:Tenor):(CD x).c 1=.int x.n:=_root_.id rfl
@[simp] theorem awQ (x:Tenor):(CD x).c 2=.int x.unit:=_root_.id rfl
def Tenor.OK (x:Tenor):Prop:=aN x.kind∧aN x.n∧aN x.unit
structure Bill where
 drawer:Int
 drawee:Int
 payee:Int
 sum:Int
 currency:Int
 tenor:Tenor
 day:Int
 city:Int
 pay:Int
 need:Int
 rate:Int
 flags:Int
 parts:Int
 deriving DecidableEq,Inhabited
def fa (x:Bill):D:=.agg [.int x.drawer,.int x.drawee,.int x.payee,.int x.sum,.int x.currency,.int x.tenor.kind,.int x.tenor.n,.int x.tenor.unit,.int x.day,.int x.city,.int x.pay,.int x.need,.int x.rate,.int x.flags,.int x.parts]
@[simp] theorem auX (x:Bill):(fa x).cells=[.int x.drawer,.int x.drawee,.int x.payee,.int x.sum,.int x.currency,.int x.tenor.kind,.int x.tenor.n,.int x.tenor.unit,.int x.day,.int x.city,.int x.pay,.int x.need,.int x.rate,.int x.flags,.int x.parts]:=_root_.id rfl
@[simp] theorem azP (x:Bill):D.agg [.int x.drawer,.int x.drawee,.int x.payee,.int x.sum,.int x.currency,.int x.tenor.kind,.int x.tenor.n,.int x.tenor.unit,.int x.day,.int x.city,.int x.pay,.int x.need,.int x.rate,.int x.flags,.int x.parts]=fa x:=_root_.id rfl
@[simp] theorem aw4 (x:Bill):ke 15 (fa x)=fa x:=_root_.id rfl
@[simp] theorem aAm (x:Bill)(a0 a1 a2 a3 a4 a5 a6 a7 a8 a9 rX rY rZ sc sd:D):D.agg (bO [a0,a1,a2,a3,a4,a5,a6,a7,a8,a9,rX,rY,rZ,sc,sd] 0 [.int x.drawer,.int x.drawee,.int x.payee,.int x.sum,.int x.currency,.int x.tenor.kind,.int x.tenor.n,.int x.tenor.unit,.int x.day,.int x.city,.int x.pay,.int x.need,.int x.rate,.int x.flags,.int x.parts])=fa x:=_root_.id rfl
@[simp] theorem auI (x:Bill):(fa x).c 0=.int x.drawer:=_root_.id rfl
@[simp] theorem auJ (x:Bill):(fa x).c 1=.int x.drawee:=_root_.id rfl
@[simp] theorem auP (x:Bill):(fa x).c 2=.int x.payee:=_root_.id rfl
@[simp] theorem auQ (x:Bill):(fa x).c 3=.int x.sum:=_root_.id rfl
@[simp] theorem auR (x:Bill):(fa x).c 4=.int x.currency:=_root_.id rfl
@[simp] theorem auS (x:Bill):(fa x).c 5=.int x.tenor.kind:=_root_.id rfl
@[simp] theorem auT (x:Bill):(fa x).c 6=.int x.tenor.n:=_root_.id rfl
@[simp] theorem auU (x:Bill):(fa x).c 7=.int x.tenor.unit:=_root_.id rfl
@[simp] theorem auV (x:Bill):(fa x).c 8=.int x.day:=_root_.id rfl
@[simp] theorem auW (x:Bill):(fa x).c 9=.int x.city:=_root_.id rfl
@[simp] theorem auK (x:Bill):(fa x).c 10=.int x.pay:=_root_.id rfl
@[simp] theorem auL (x:Bill):(fa x).c 11=.int x.need:=_root_.id rfl
@[simp] theorem auM (x:Bill):(fa x).c 12=.int x.rate:=_root_.id rfl
@[simp] theorem auN (x:Bill):(fa x).c 13=.int x.flags:=_root_.id rfl
@[simp] theorem auO (x:Bill):(fa x).c 14=.int x.parts:=_root_.id rfl
def Bill.OK (x:Bill):Prop:=aN x.drawer∧aN x.drawee∧aN x.payee∧aN x.sum∧aN x.currency∧Tenor.OK x.tenor∧aN x.day∧aN x.city∧aN x.pay∧aN x.need∧aN x.rate∧aN x.flags∧aN x.parts
structure Sign where
 kind:Int
 part:Int
 who:Int
 for_:Int
 to:Int
 sum:Int
 day:Int
 city:Int
 flags:Int
 deriving DecidableEq,Inhabited
def eE (x:Sign):D:=.agg [.int x.kind,.int x.part,.int x.who,.int x.for_,.int x.to,.int x.sum,.int x.day,.int x.city,.int x.flags]
@[simp] theorem awI (x:Sign):(eE x).cells=[.int x.kind,.int x.part,.int x.who,.int x.for_,.int x.to,.int x.sum,.int x.day,.int x.city,.int x.flags]:=_root_.id rfl
@[simp] theorem az8 (x:Sign):D.agg [.int x.kind,.int x.part,.int x.who,.int x.for_,.int x.to,.int x.sum,.int x.day,.int x.city,.int x.flags]=eE x:=_root_.id rfl
@[simp] theorem axb (x:Sign):ke 9 (eE x)=eE x:=_root_.id rfl
@[simp] theorem awz (x:Sign):(eE x).c 0=.int x.kind:=_root_.id rfl
@[simp] theorem awA (x:Sign):(eE x).c 1=.int x.part:=_root_.id rfl
@[simp] theorem awB (x:Sign):(eE x).c 2=.int x.who:=_root_.id rfl
@[simp] theorem awC (x:Sign):(eE x).c 3=.int x.for_:=_root_.id rfl
@[simp] theorem awD (x:Sign):(eE x).c 4=.int x.to:=_root_.id rfl
@[simp] theorem awE (x:Sign):(eE x).c 5=.int x.sum:=_root_.id rfl
@[simp] theorem awF (x:Sign):(eE x).c 6=.int x.day:=_root_.id rfl
@[simp] theorem awG (x:Sign):(eE x).c 7=.int x.city:=_root_.id rfl
@[simp] theorem awH (x:Sign):(eE x).c 8=.int x.flags:=_root_.id rfl
def signs (l:List Sign):D:=.list (l.map eE)
@[simp] theorem aAR (l:List Sign):(signs l).l=l.map eE:=_root_.id rfl
@[simp] theorem aAQ (l:List Sign):(signs l).cells=[signs l]:=_root_.id rfl
abbrev UT:Ty:=.agg [.int .i64,.int .i64,.int .i64,.int .i64,.int .i64,.int .i64,.int .i64,.int .i64,.int .i64]
def Sign.OK (x:Sign):Prop:=aN x.kind∧aN x.part∧aN x.who∧aN x.for_∧aN x.to∧aN x.sum∧aN x.day∧aN x.city∧aN x.flags
theorem aq6 {d:D}(h:DTy UT d):∃x:Sign,d=eE x∧x.OK:=by
 obtain⟨ds,rfl,hs⟩:=h.agg_inv;obtain⟨d0,ds,rfl,h0,hs⟩:=hs.cons_inv;obtain⟨d1,ds,rfl,h1,hs⟩:=hs.cons_inv;obtain⟨d2,ds,rfl,h2,hs⟩:=hs.cons_inv;obtain⟨d3,ds,rfl,h3,hs⟩:=hs.cons_inv;obtain⟨d4,ds,rfl,h4,hs⟩:=hs.cons_inv;obtain⟨d5,ds,rfl,h5,hs⟩:=hs.cons_inv;obtain⟨d6,ds,rfl,h6,hs⟩:=hs.cons_inv;obtain⟨d7,ds,rfl,h7,hs⟩:=hs.cons_inv;obtain⟨d8,ds,rfl,h8,hs⟩:=hs.cons_inv;obtain rfl:=hs.nil_inv;obtain⟨n0,rfl,b0⟩:=h0.i64_inv;obtain⟨n1,rfl,b1⟩:=h1.i64_inv;obtain⟨n2,rfl,b2⟩:=h2.i64_inv;obtain⟨n3,rfl,b3⟩:=h3.i64_inv;obtain⟨n4,rfl,b4⟩:=h4.i64_inv;obtain⟨n5,rfl,b5⟩:=h5.i64_inv;obtain⟨n6,rfl,b6⟩:=h6.i64_inv;obtain⟨n7,rfl,b7⟩:=h7.i64_inv;obtain⟨n8,rfl,b8⟩:=h8.i64_inv;exact⟨⟨n0,n1,n2,n3,n4,n5,n6,n7,n8⟩,rfl,⟨b0,b1,b2,b3,b4,b5,b6,b7,b8⟩⟩
theorem aq8 {d:D}(h:DTy (.slice UT) d):∃l:List Sign,d=signs l∧l.length≤maxLen∧∀y,y∈l→Sign.OK y:=by
 obtain⟨xs,rfl,hm,hx⟩:=h.slice_inv;obtain⟨l,rfl,hl⟩:=jW (enc:=eE) (P:=Sign.OK) fun x hh=>aq6 (hx x hh);exact⟨l,rfl,by simpa using hm,hl⟩
structure Alter where
 at_:Int
 sum:Int
 deriving DecidableEq,Inhabited
def pB (x:Alter):D:=.agg [.int x.at_,.int x.sum]
@[simp] theorem auH (x:Alter):(pB x).cells=[.int x.at_,.int x.sum]:=_root_.id rfl
@[simp] theorem azO (x:Alter):D.agg [.int x.at_,.int x.sum]=pB x:=_root_.id rfl
@[simp] theorem auF (x:Alter):(pB x).c 0=.int x.at_:=_root_.id rfl
@[simp] theorem auG (x:Alter):(pB x).c 1=.int x.sum:=_root_.id rfl
def alters (l:List Alter):D:=.list (l.map pB)
@[simp] theorem axe (l:List Alter):(alters l).l=l.map pB:=_root_.id rfl
@[simp] theorem axd (l:List Alter):(alters l).cells=[alters l]:=_root_.id rfl
abbrev UI:Ty:=.agg [.int .i64,.int .i64]
def Alter.OK (x:Alter):Prop:=aN x.at_∧aN x.sum
theorem aeF {d:D}(h:DTy UI d):∃x:Alter,d=pB x∧x.OK:=by
 obtain⟨ds,rfl,hs⟩:=h.agg_inv;obtain⟨d0,ds,rfl,h0,hs⟩:=hs.cons_inv;obtain⟨d1,ds,rfl,h1,hs⟩:=hs.cons_inv;obtain rfl:=hs.nil_inv;obtain⟨n0,rfl,b0⟩:=h0.i64_inv;obtain⟨n1,rfl,b1⟩:=h1.i64_inv;exact⟨⟨n0,n1⟩,rfl,⟨b0,b1⟩⟩
theorem aeG {d:D}(h:DTy (.slice UI) d):∃l:List Alter,d=alters l∧l.length≤maxLen∧∀y,y∈l→Alter.OK y:=by
 obtain⟨xs,rfl,hm,hx⟩:=h.slice_inv;obtain⟨l,rfl,hl⟩:=jW (enc:=pB) (P:=Alter.OK) fun x hh=>aeF (hx x hh);exact⟨l,rfl,by simpa using hm,hl⟩
structure Act where
 kind:Int
 who:Int
 to:Int
 part:Int
 at_:Int
 sum:Int
 day:Int
 city:Int
 form:Int
 deriving DecidableEq,Inhabited
def gH (x:Act):D:=.agg [.int x.kind,.int x.who,.int x.to,.int x.part,.int x.at_,.int x.sum,.int x.day,.int x.city,.int x.form]
@[simp] theorem auE (x:Act):(gH x).cells=[.int x.kind,.int x.who,.int x.to,.int x.part,.int x.at_,.int x.sum,.int x.day,.int x.city,.int x.form]:=_root_.id rfl
@[simp] theorem azN (x:Act):D.agg [.int x.kind,.int x.who,.int x.to,.int x.part,.int x.at_,.int x.sum,.int x.day,.int x.city,.int x.form]=gH x:=_root_.id rfl
@[simp] theorem aw3 (x:Act):ke 9 (gH x)=gH x:=_root_.id rfl
@[simp] theorem auu (x:Act):(gH x).c 0=.int x.kind:=_root_.id rfl
@[simp] theorem auv (x:Act):(gH x).c 1=.int x.who:=_root_.id rfl
@[simp] theorem auw (x:Act):(gH x).c 2=.int x.to:=_root_.id rfl
@[simp] theorem auy (x:Act):(gH x).c 3=.int x.part:=_root_.id rfl
@[simp] theorem auz (x:Act):(gH x).c 4=.int x.at_:=_root_.id rfl
@[simp] theorem auA (x:Act):(gH x).c 5=.int x.sum:=_root_.id rfl
@[simp] theorem auB (x:Act):(gH x).c 6=.int x.day:=_root_.id rfl
@[simp] theorem auC (x:Act):(gH x).c 7=.int x.city:=_root_.id rfl
@[simp] theorem auD (x:Act):(gH x).c 8=.int x.form:=_root_.id rfl
def acts (l:List Act):D:=.list (l.map gH)
@[simp] theorem awX (l:List Act):(acts l).l=l.map gH:=_root_.id rfl
@[simp] theorem awW (l:List Act):(acts l).cells=[acts l]:=_root_.id rfl
abbrev UH:Ty:=.agg [.int .i64,.int .i64,.int .i64,.int .i64,.int .i64,.int .i64,.int .i64,.int .i64,.int .i64]
def Act.OK (x:Act):Prop:=aN x.kind∧aN x.who∧aN x.to∧aN x.part∧aN x.at_∧aN x.sum∧aN x.day∧aN x.city∧aN x.form
theorem aex {d:D}(h:DTy UH d):∃x:Act,d=gH x∧x.OK:=by
 obtain⟨ds,rfl,hs⟩:=h.agg_inv;obtain⟨d0,ds,rfl,h0,hs⟩:=hs.cons_inv;obtain⟨d1,ds,rfl,h1,hs⟩:=hs.cons_inv;obtain⟨d2,ds,rfl,h2,hs⟩:=hs.cons_inv;obtain⟨d3,ds,rfl,h3,hs⟩:=hs.cons_inv;obtain⟨d4,ds,rfl,h4,hs⟩:=hs.cons_inv;obtain⟨d5,ds,rfl,h5,hs⟩:=hs.cons_inv;obtain⟨d6,ds,rfl,h6,hs⟩:=hs.cons_inv;obtain⟨d7,ds,rfl,h7,hs⟩:=hs.cons_inv;obtain⟨d8,ds,rfl,h8,hs⟩:=hs.cons_inv;obtain rfl:=hs.nil_inv;obtain⟨n0,rfl,b0⟩:=h0.i64_inv;obtain⟨n1,rfl,b1⟩:=h1.i64_inv;obtain⟨n2,rfl,b2⟩:=h2.i64_inv;obtain⟨n3,rfl,b3⟩:=h3.i64_inv;obtain⟨n4,rfl,b4⟩:=h4.i64_inv;obtain⟨n5,rfl,b5⟩:=h5.i64_inv;obtain⟨n6,rfl,b6⟩:=h6.i64_inv;obtain⟨n7,rfl,b7⟩:=h7.i64_inv;obtain⟨n8,rfl,b8⟩:=h8.i64_inv;exact⟨⟨n0,n1,n2,n3,n4,n5,n6,n7,n8⟩,rfl,⟨b0,b1,b2,b3,b4,b5,b6,b7,b8⟩⟩
theorem aey {d:D}(h:DTy (.slice UH) d):∃l:List Act,d=acts l∧l.length≤maxLen∧∀y,y∈l→Act.OK y:=by
 obtain⟨xs,rfl,hm,hx⟩:=h.slice_inv;obtain⟨l,rfl,hl⟩:=jW (enc:=gH) (P:=Act.OK) fun x hh=>aex (hx x hh);exact⟨l,rfl,by simpa using hm,hl⟩
structure Fact where
 kind:Int
 at_:Int
 n:Int
 deriving DecidableEq,Inhabited
def sv (x:Fact):D:=.agg [.int x.kind,.int x.at_,.int x.n]
@[simp] theorem avu (x:Fact):(sv x).cells=[.int x.kind,.int x.at_,.int x.n]:=_root_.id rfl
@[simp] theorem azV (x:Fact):D.agg [.int x.kind,.int x.at_,.int x.n]=sv x:=_root_.id rfl
@[simp] theorem avr (x:Fact):(sv x).c 0=.int x.kind:=_root_.id rfl
@[simp] theorem avs (x:Fact):(sv x).c 1=.int x.at_:=_root_.id rfl
@[simp] theorem avt (x:Fact):(sv x).c 2=.int x.n:=_root_.id rfl
def facts (l:List Fact):D:=.list (l.map sv)
@[simp] theorem ayL (l:List Fact):(facts l).l=l.map sv:=_root_.id rfl
@[simp] theorem ayK (l:List Fact):(facts l).cells=[facts l]:=_root_.id rfl
abbrev UL:Ty:=.agg [.int .i64,.int .i64,.int .i64]
def Fact.OK (x:Fact):Prop:=aN x.kind∧aN x.at_∧aN x.n
theorem aha {d:D}(h:DTy UL d):∃x:Fact,d=sv x∧x.OK:=by
 obtain⟨ds,rfl,hs⟩:=h.agg_inv;obtain⟨d0,ds,rfl,h0,hs⟩:=hs.cons_inv;obtain⟨d1,ds,rfl,h1,hs⟩:=hs.cons_inv;obtain⟨d2,ds,rfl,h2,hs⟩:=hs.cons_inv;obtain rfl:=hs.nil_inv;obtain⟨n0,rfl,b0⟩:=h0.i64_inv;obtain⟨n1,rfl,b1⟩:=h1.i64_inv;obtain⟨n2,rfl,b2⟩:=h2.i64_inv;exact⟨⟨n0,n1,n2⟩,rfl,⟨b0,b1,b2⟩⟩
theorem ahd {d:D}(h:DTy (.slice UL) d):∃l:List Fact,d=facts l∧l.length≤maxLen∧∀y,y∈l→Fact.OK y:=by
 obtain⟨xs,rfl,hm,hx⟩:=h.slice_inv;obtain⟨l,rfl,hl⟩:=jW (enc:=sv) (P:=Fact.OK) fun x hh=>aha (hx x hh);exact⟨l,rfl,by simpa using hm,hl⟩
structure File where
 bill:Bill
 signs:List Sign
 alters:List Alter
 acts:List Act
 facts:List Fact
 deriving Inhabited
def aX (x:File):D:=.agg [.int x.bill.drawer,.int x.bill.drawee,.int x.bill.payee,.int x.bill.sum,.int x.bill.currency,.int x.bill.tenor.kind,.int x.bill.tenor.n,.int x.bill.tenor.unit,.int x.bill.day,.int x.bill.city,.int x.bill.pay,.int x.bill.need,.int x.bill.rate,.int x.bill.flags,.int x.bill.parts,signs x.signs,alters x.alters,acts x.acts,facts x.facts]
@[simp] theorem avO (x:File):(aX x).cells=[.int x.bill.drawer,.int x.bill.drawee,.int x.bill.payee,.int x.bill.sum,.int x.bill.currency,.int x.bill.tenor.kind,.int x.bill.tenor.n,.int x.bill.tenor.unit,.int x.bill.day,.int x.bill.city,.int x.bill.pay,.int x.bill.need,.int x.bill.rate,.int x.bill.flags,.int x.bill.parts,signs x.signs,alters x.alters,acts x.acts,facts x.facts]:=_root_.id rfl
@[simp] theorem azW (x:File):D.agg [.int x.bill.drawer,.int x.bill.drawee,.int x.bill.payee,.int x.bill.sum,.int x.bill.currency,.int x.bill.tenor.kind,.int x.bill.tenor.n,.int x.bill.tenor.unit,.int x.bill.day,.int x.bill.city,.int x.bill.pay,.int x.bill.need,.int x.bill.rate,.int x.bill.flags,.int x.bill.parts,signs x.signs,alters x.alters,acts x.acts,facts x.facts]=aX x:=_root_.id rfl
@[simp] theorem aw6 (x:File):ke 19 (aX x)=aX x:=_root_.id rfl
@[simp] theorem aAn (x:File)(a0 a1 a2 a3 a4 a5 a6 a7 a8 a9 rX rY rZ sc sd vY vZ v3 v5:D):D.agg (bO [a0,a1,a2,a3,a4,a5,a6,a7,a8,a9,rX,rY,rZ,sc,sd,vY,vZ,v3,v5] 0 [.int x.bill.drawer,.int x.bill.drawee,.int x.bill.payee,.int x.bill.sum,.int x.bill.currency,.int x.bill.tenor.kind,.int x.bill.tenor.n,.int x.bill.tenor.unit,.int x.bill.day,.int x.bill.city,.int x.bill.pay,.int x.bill.need,.int x.bill.rate,.int x.bill.flags,.int x.bill.parts,signs x.signs,alters x.alters,acts x.acts,facts x.facts])=aX x:=_root_.id rfl
@[simp] theorem avv (x:File):(aX x).c 0=.int x.bill.drawer:=_root_.id rfl
@[simp] theorem avw (x:File):(aX x).c 1=.int x.bill.drawee:=_root_.id rfl
@[simp] theorem avG (x:File):(aX x).c 2=.int x.bill.payee:=_root_.id rfl
@[simp] theorem avH (x:File):(aX x).c 3=.int x.bill.sum:=_root_.id rfl
@[simp] theorem avI (x:File):(aX x).c 4=.int x.bill.currency:=_root_.id rfl
@[simp] theorem avJ (x:File):(aX x).c 5=.int x.bill.tenor.kind:=_root_.id rfl
@[simp] theorem avK (x:File):(aX x).c 6=.int x.bill.tenor.n:=_root_.id rfl
@[simp] theorem avL (x:File):(aX x).c 7=.int x.bill.tenor.unit:=_root_.id rfl
@[simp] theorem avM (x:File):(aX x).c 8=.int x.bill.day:=_root_.id rfl
@[simp] theorem avN (x:File):(aX x).c 9=.int x.bill.city:=_root_.id rfl
@[simp] theorem avx (x:File):(aX x).c 10=.int x.bill.pay:=_root_.id rfl
@[simp] theorem avy (x:File):(aX x).c 11=.int x.bill.need:=_root_.id rfl
@[simp] theorem avz (x:File):(aX x).c 12=.int x.bill.rate:=_root_.id rfl
@[simp] theorem avA (x:File):(aX x).c 13=.int x.bill.flags:=_root_.id rfl
@[simp] theorem avB (x:File):(aX x).c 14=.int x.bill.parts:=_root_.id rfl
@[simp] theorem avC (x:File):(aX x).c 15=signs x.signs:=_root_.id rfl
@[simp] theorem avD (x:File):(aX x).c 16=alters x.alters:=_root_.id rfl
@[simp] theorem avE (x:File):(aX x).c 17=acts x.acts:=_root_.id rfl
@[simp] theorem avF (x:File):(aX x).c 18=facts x.facts:=_root_.id rfl
abbrev atX:Ty:=.agg [.int .i64,.int .i64,.int .i64,.int .i64,.int .i64,.int .i64,.int .i64,.int .i64,.int .i64,.int .i64,.int .i64,.int .i64,.int .i64,.int .i64,.int .i64,.slice UT,.slice UI,.slice UH,.slice UL]
def File.OK (x:File):Prop:=Bill.OK x.bill∧(x.signs.length≤maxLen∧∀y,y∈x.signs→Sign.OK y)∧(x.alters.length≤maxLen∧∀y,y∈x.alters→Alter.OK y)∧(x.acts.length≤maxLen∧∀y,y∈x.acts→Act.OK y)∧(x.facts.length≤maxLen∧∀y,y∈x.facts→Fact.OK y)
theorem ahe {d:D}(h:DTy atX d):∃x:File,d=aX x∧x.OK:=by
 obtain⟨ds,rfl,hs⟩:=h.agg_inv;obtain⟨d0,ds,rfl,h0,hs⟩:=hs.cons_inv;obtain⟨d1,ds,rfl,h1,hs⟩:=hs.cons_inv;obtain⟨d2,ds,rfl,h2,hs⟩:=hs.cons_inv;obtain⟨d3,ds,rfl,h3,hs⟩:=hs.cons_inv;obtain⟨d4,ds,rfl,h4,hs⟩:=hs.cons_inv;obtain⟨d5,ds,rfl,h5,hs⟩:=hs.cons_inv;obtain⟨d6,ds,rfl,h6,hs⟩:=hs.cons_inv;obtain⟨d7,ds,rfl,h7,hs⟩:=hs.cons_inv;obtain⟨d8,ds,rfl,h8,hs⟩:=hs.cons_inv;obtain⟨d9,ds,rfl,h9,hs⟩:=hs.cons_inv;obtain⟨d10,ds,rfl,jM,hs⟩:=hs.cons_inv;obtain⟨d11,ds,rfl,nU,hs⟩:=hs.cons_inv;obtain⟨d12,ds,rfl,Nh,hs⟩:=hs.cons_inv;obtain⟨d13,ds,rfl,h13,hs⟩:=hs.cons_inv;obtain⟨d14,ds,rfl,h14,hs⟩:=hs.cons_inv;obtain⟨d15,ds,rfl,H3,hs⟩:=hs.cons_inv;obtain⟨d16,ds,rfl,H4,hs⟩:=hs.cons_inv;obtain⟨d17,ds,rfl,H5,hs⟩:=hs.cons_inv;obtain⟨d18,ds,rfl,H6,hs⟩:=hs.cons_inv;obtain rfl:=hs.nil_inv;obtain⟨n0,rfl,b0⟩:=h0.i64_inv;obtain⟨n1,rfl,b1⟩:=h1.i64_inv;obtain⟨n2,rfl,b2⟩:=h2.i64_inv;obtain⟨n3,rfl,b3⟩:=h3.i64_inv;obtain⟨n4,rfl,b4⟩:=h4.i64_inv;obtain⟨n5,rfl,b5⟩:=h5.i64_inv;obtain⟨n6,rfl,b6⟩:=h6.i64_inv;obtain⟨n7,rfl,b7⟩:=h7.i64_inv;obtain⟨n8,rfl,b8⟩:=h8.i64_inv;obtain⟨n9,rfl,b9⟩:=h9.i64_inv;obtain⟨n10,rfl,b10⟩:=jM.i64_inv;obtain⟨n11,rfl,b11⟩:=nU.i64_inv;obtain⟨n12,rfl,b12⟩:=Nh.i64_inv;obtain⟨n13,rfl,b13⟩:=h13.i64_inv;obtain⟨n14,rfl,b14⟩:=h14.i64_inv;obtain⟨n15,rfl,b15,c15⟩:=aq8 H3;obtain⟨n16,rfl,b16,c16⟩:=aeG H4;obtain⟨n17,rfl,b17,c17⟩:=aey H5;obtain⟨n18,rfl,b18,c18⟩:=ahd H6;exact⟨⟨⟨n0,n1,n2,n3,n4,⟨n5,n6,n7⟩,n8,n9,n10,n11,n12,n13,n14⟩,n15,n16,n17,n18⟩,rfl,⟨⟨b0,b1,b2,b3,b4,⟨b5,b6,b7⟩,b8,b9,b10,b11,b12,b13,b14⟩,⟨b15,c15⟩,⟨b16,c16⟩,⟨b17,c17⟩,⟨b18,c18⟩⟩⟩
structure Case where
 file:File
 sign:Int
 holder:Int
 defence:Int
 due:Int
 day:Int
 deriving Inhabited
def fC (x:Case):D:=.agg [.int x.file.bill.drawer,.int x.file.bill.drawee,.int x.file.bill.payee,.int x.file.bill.sum,.int x.file.bill.currency,.int x.file.bill.tenor.kind,.int x.file.bill.tenor.n,.int x.file.bill.tenor.unit,.int x.file.bill.day,.int x.file.bill.city,.int x.file.bill.pay,.int x.file.bill.need,.int x.file.bill.rate,.int x.file.bill.flags,.int x.file.bill.parts,signs x.file.signs,alters x.file.alters,acts x.file.acts,facts x.file.facts,.int x.sign,.int x.holder,.int x.defence,.int x.due,.int x.day]
@[simp] theorem au6 (x:Case):(fC x).cells=[.int x.file.bill.drawer,.int x.file.bill.drawee,.int x.file.bill.payee,.int x.file.bill.sum,.int x.file.bill.currency,.int x.file.bill.tenor.kind,.int x.file.bill.tenor.n,.int x.file.bill.tenor.unit,.int x.file.bill.day,.int x.file.bill.city,.int x.file.bill.pay,.int x.file.bill.need,.int x.file.bill.rate,.int x.file.bill.flags,.int x.file.bill.parts,signs x.file.signs,alters x.file.alters,acts x.file.acts,facts x.file.facts,.int x.sign,.int x.holder,.int x.defence,.int x.due,.int x.day]:=_root_.id rfl
@[simp] theorem azQ (x:Case):D.agg [.int x.file.bill.drawer,.int x.file.bill.drawee,.int x.file.bill.payee,.int x.file.bill.sum,.int x.file.bill.currency,.int x.file.bill.tenor.kind,.int x.file.bill.tenor.n,.int x.file.bill.tenor.unit,.int x.file.bill.day,.int x.file.bill.city,.int x.file.bill.pay,.int x.file.bill.need,.int x.file.bill.rate,.int x.file.bill.flags,.int x.file.bill.parts,signs x.file.signs,alters x.file.alters,acts x.file.acts,facts x.file.facts,.int x.sign,.int x.holder,.int x.defence,.int x.due,.int x.day]=fC x:=_root_.id rfl
@[simp] theorem aeE (x:Case):ke 24 (fC x)=fC x:=_root_.id rfl
@[simp] theorem ao4 (x:Case)(a0 a1 a2 a3 a4 a5 a6 a7 a8 a9 rX rY rZ sc sd vY vZ v3 v5 a19 a20 a21 a22 a23:D):D.agg (bO [a0,a1,a2,a3,a4,a5,a6,a7,a8,a9,rX,rY,rZ,sc,sd,vY,vZ,v3,v5,a19,a20,a21,a22,a23] 0 [.int x.file.bill.drawer,.int x.file.bill.drawee,.int x.file.bill.payee,.int x.file.bill.sum,.int x.file.bill.currency,.int x.file.bill.tenor.kind,.int x.file.bill.tenor.n,.int x.file.bill.tenor.unit,.int x.file.bill.day,.int x.file.bill.city,.int x.file.bill.pay,.int x.file.bill.need,.int x.file.bill.rate,.int x.file.bill.flags,.int x.file.bill.parts,signs x.file.signs,alters x.file.alters,acts x.file.acts,facts x.file.facts,.int x.sign,.int x.holder,.int x.defence,.int x.due,.int x.day])=fC x:=_root_.id rfl
@[simp] theorem au5 (x:Case):(fC x).c 9=.int x.file.bill.city:=_root_.id rfl
@[simp] theorem auY (x:Case):(fC x).c 10=.int x.file.bill.pay:=_root_.id rfl
@[simp] theorem auZ (x:Case):(fC x).c 15=signs x.file.signs:=_root_.id rfl
@[simp] theorem au0 (x:Case):(fC x).c 19=.int x.sign:=_root_.id rfl
@[simp] theorem au1 (x:Case):(fC x).c 20=.int x.holder:=_root_.id rfl
@[simp] theorem au2 (x:Case):(fC x).c 21=.int x.defence:=_root_.id rfl
@[simp] theorem au3 (x:Case):(fC x).c 22=.int x.due:=_root_.id rfl
@[simp] theorem au4 (x:Case):(fC x).c 23=.int x.day:=_root_.id rfl
def cases(l:List Case):D:=.list (l.map fC)
structure Cell where
 known:Bool
 n:Int
 deriving DecidableEq,Inhabited
def df (x:Cell):D:=.agg [.bool x.known,.int x.n]
@[simp] theorem au9 (x:Cell):(df x).cells=[.bool x.known,.int x.n]:=_root_.id rfl
@[simp] theorem azR (x:Cell):D.agg [.bool x.known,.int x.n]=df x:=_root_.id rfl
@[simp] theorem au7 (x:Cell):(df x).c 0=.bool x.known:=_root_.id rfl
@[simp] theorem au8 (x:Cell):(df x).c 1=.int x.n:=_root_.id rfl
def cells (l:List Cell):D:=.list (l.map df)
@[simp] theorem axu (l:List Cell):(cells l).l=l.map df:=_root_.id rfl
@[simp] theorem axt (l:List Cell):(cells l).cells=[cells l]:=_root_.id rfl
structure Said where
 cell:Cell
 order:Int
 path:List Int
 err:Int
 deriving Inhabited
def sB (x:Said):D:=.agg [.bool x.cell.known,.int x.cell.n,.int x.order,ints x.path,.int x.err]
@[simp] theorem awv (x:Said):(sB x).cells=[.bool x.cell.known,.int x.cell.n,.int x.order,ints x.path,.int x.err]:=_root_.id rfl
@[simp] theorem az6 (x:Said):D.agg [.bool x.cell.known,.int x.cell.n,.int x.order,ints x.path,.int x.err]=sB x:=_root_.id rfl
@[simp] theorem axa (x:Said):ke 5 (sB x)=sB x:=_root_.id rfl
structure Effect where
 sign:Int
 kind:Int
 firm:Int
 binds:Int
 text:Int
 sum:Int
 aAB:Bool
 deriving DecidableEq,Inhabited
@[simp] theorem aAZ (a0 x0:D):bO [a0] 0 [x0]=[x0]:=_root_.id rfl
@[simp] theorem aA0 (a0 a1 x0 x1:D):bO [a0,a1] 0 [x0,x1]=[x0,x1]:=_root_.id rfl
@[simp] theorem aA1 (a0 a1 a2 x0 x1 x2:D):bO [a0,a1,a2] 0 [x0,x1,x2]=[x0,x1,x2]:=_root_.id rfl
@[simp] theorem aA2 (a0 a1 a2 a3 x0 x1 x2 x3:D):bO [a0,a1,a2,a3] 0 [x0,x1,x2,x3]=[x0,x1,x2,x3]:=_root_.id rfl
@[simp] theorem aA3 (a0 a1 a2 a3 a4 x0 x1 x2 x3 x4:D):bO [a0,a1,a2,a3,a4] 0 [x0,x1,x2,x3,x4]=[x0,x1,x2,x3,x4]:=_root_.id rfl
@[simp] theorem aA4 (a0 a1 a2 a3 a4 a5 x0 x1 x2 x3 x4 x5:D):bO [a0,a1,a2,a3,a4,a5] 0 [x0,x1,x2,x3,x4,x5]=[x0,x1,x2,x3,x4,x5]:=_root_.id rfl
@[simp] theorem aA5 (a0 a1 a2 a3 a4 a5 a6 a7 a8 x0 x1 x2 x3 x4 x5 x6 x7 x8:D):bO [a0,a1,a2,a3,a4,a5,a6,a7,a8] 0 [x0,x1,x2,x3,x4,x5,x6,x7,x8]=[x0,x1,x2,x3,x4,x5,x6,x7,x8]:=_root_.id rfl
end Rm
set_option maxRecDepth 100000
namespace Rm
open Go Go.Proofs Cx
abbrev I:Ty:=.int .i64
abbrev Y0:Ty:=.agg [.str,I,I,(.slice I),(.slice I),(.slice I)]
abbrev Y1:Ty:=.agg [I]
abbrev Y2:Ty:=.agg [.str,I,I]
abbrev Y3:Ty:=.agg [I,I,.bool]
abbrev Y4:Ty:=.agg [I,I,I,(.slice .trm)]
abbrev Y5:Ty:=.agg [.str,.bool,(.slice Y3),(.slice Y4)]
abbrev Y6:Ty:=.agg [I,I,I]
abbrev Y7:Ty:=.agg [I,I,I,I,I]
abbrev Y8:Ty:=.agg [(.slice .str),(.slice Y0),(.slice Y1),(.slice Y2),(.slice Y5),(.slice Y6),(.slice Y7),(.slice Y6)]
abbrev Y9:Ty:=.agg [I,I,I,I,I,I,I,I,I]
abbrev rV:Ty:=.agg [I,I]
abbrev cJ:Ty:=.agg [I,I,I,I,I,I,I,I,I,I,I,I,I,I,I,(.slice Y9),(.slice rV),(.slice Y9),(.slice Y6)]
abbrev kc:Ty:=.agg [I,I,I,I,I,(.slice Y3)]
abbrev LG:Ty:=.agg [(.slice I),I,I,.bool,I,(.slice I)]
abbrev F8:Ty:=.agg [I,I,I,I,I,I,I,I,I,I,I,I,I,I,I]
abbrev F9:Ty:=.agg [.bool,I,I,(.slice I),I]
abbrev qz:Ty:=.agg [I,I,I,I,I,I,I,I,I,I,I,I,I,I,I,(.slice Y9),(.slice rV),(.slice Y9),(.slice Y6),I,I,I,I,I]
abbrev rW:Ty:=.agg [I,I,(.slice .trm)]
abbrev lg:Ty:=.agg [.bool,I]
abbrev VB:Ty:=.agg [(.slice lg)]
abbrev Y20:Ty:=.agg [(.slice I),I]
def vy:List (Nat×Sig):=[
 (3,⟨[Y8,I,cJ,kc,I],.bool,.dat⟩),
 (7,⟨[],.bool,.dat⟩),
 (8,⟨[Y8,cJ,kc],.bool,.dat⟩),
 (9,⟨[Y8,I,cJ,kc,I],(.tup [cJ,I]),.dat⟩),
 (10,⟨[Y8,cJ],I,.dat⟩),
 (11,⟨[LG,LG],.bool,.dat⟩),
 (12,⟨[cJ,I,I],LG,.dat⟩),
 (13,⟨[cJ,I],cJ,(.rows [.dat I,.dat I,.dat I,.dat I,.dat I,.dat I,.dat I,.dat I,.dat I,.dat I,.dat I,.dat I,.dat I,.dat I,.dat I,.row 71 Y9,.row 87 rV,.row 78 Y9,.row 97 Y6])⟩),
 (14,⟨[cJ,I,I],.bool,.dat⟩),
 (15,⟨[(.slice I),(.slice I)],.bool,.dat⟩),
 (16,⟨[Y8,I,cJ,kc,I],I,.dat⟩),
 (17,⟨[Y8,cJ,kc],I,.dat⟩),
 (20,⟨[],(.tup [Y8,cJ,kc]),.dat⟩),
 (21,⟨[Y8,cJ],.bool,.dat⟩),
 (22,⟨[Y8],I,.dat⟩),
 (23,⟨[(.slice I),I],.bool,.dat⟩),
 (24,⟨[Y8,F8],I,.dat⟩),
 (25,⟨[Y8,cJ,I],I,.dat⟩),
 (26,⟨[I,I,I],.bool,.dat⟩),
 (27,⟨[Y8,cJ,I],I,.dat⟩),
 (28,⟨[cJ,I],I,.dat⟩),
 (29,⟨[cJ,I],(.tup [I,.bool]),.dat⟩),
 (30,⟨[cJ,I,I],(.fn [(.fn [I,Y9] .bool)] (.tup [])),.dat⟩),
 (31,⟨[I,I],I,.dat⟩),
 (32,⟨[I,I],.bool,.dat⟩),
 (33,⟨[cJ,I],(.map I .bool),.dat⟩),
 (34,⟨[F9],I,.dat⟩),
 (35,⟨[Y8,I,I,cJ,I],F9,.dat⟩),
 (36,⟨[Y8,cJ],I,.dat⟩),
 (37,⟨[Y3,(.ref Y8)],.bool,.dat⟩),
 (38,⟨[Y8,I],.bool,.dat⟩),
 (39,⟨[(.ref kc),(.ref cJ)],.bool,.dat⟩),
 (40,⟨[(.ref Y8),(.ref kc)],.bool,.dat⟩),
 (41,⟨[(.ref kc)],.bool,.dat⟩),
 (42,⟨[(.ref kc),(.ref (.fn [Y3] .bool))],.bool,.dat⟩),
 (43,⟨[(.slice Y3),(.fn [Y3] .bool)],.bool,.dat⟩),
 (44,⟨[(.ref cJ),(.ref kc)],.bool,.dat⟩),
 (45,⟨[cJ,kc],.bool,.dat⟩),
 (48,⟨[Y8],.bool,.dat⟩),
 (49,⟨[cJ],.bool,.dat⟩),
 (50,⟨[Y5],.bool,.dat⟩),
 (51,⟨[Y8],I,.dat⟩),
 (52,⟨[Y8],I,.dat⟩),
 (53,⟨[Y8],I,.dat⟩),
 (54,⟨[Y8],I,.dat⟩),
 (55,⟨[Y8],I,.dat⟩),
 (56,⟨[(.slice I),I],I,.dat⟩),
 (57,⟨[I,I],.bool,.dat⟩),
 (58,⟨[I,I],.bool,.dat⟩),
 (59,⟨[I],.bool,.dat⟩),
 (60,⟨[F8],.bool,.dat⟩),
 (61,⟨[Y8,I,I],(.tup [I,I]),.dat⟩),
 (62,⟨[Y8,cJ,I],.bool,.dat⟩),
 (63,⟨[Y8,cJ,Y9],.bool,.dat⟩),
 (65,⟨[Y8,I,I,qz],F9,.dat⟩),
 (66,⟨[Y8,F8],I,.dat⟩),
 (67,⟨[Y8,cJ,I],I,.dat⟩),
 (68,⟨[I,I,I],.bool,.dat⟩),
 (69,⟨[Y8,cJ],I,.dat⟩),
 (70,⟨[cJ],I,.dat⟩),
 (71,⟨[(.slice Y3),(.fn [Y3] .bool)],I,.dat⟩),
 (77,⟨[rW],.bool,.dat⟩),
 (78,⟨[(.slice .str),I],I,.dat⟩),
 (79,⟨[Y8,Y0],.bool,.dat⟩),
 (80,⟨[Y5],.bool,.dat⟩),
 (81,⟨[cJ,I],.bool,.dat⟩),
 (82,⟨[cJ,I,I],.bool,.dat⟩),
 (83,⟨[Y8,I,I,qz],(.tup [F9,(.slice lg)]),.dat⟩),
 (84,⟨[Y5,I,(.slice lg)],(.tup [lg,I]),.dat⟩),
 (85,⟨[Y8],I,.dat⟩),
 (86,⟨[I,I],.bool,.dat⟩),
 (87,⟨[F8],.bool,.dat⟩),
 (88,⟨[Y8,I,I],(.tup [I,I]),.dat⟩),
 (89,⟨[Y8,cJ,I],.bool,.dat⟩),
 (90,⟨[Y8,cJ,Y9],.bool,.dat⟩),
 (91,⟨[(.slice I)],I,.dat⟩),
 (92,⟨[I,I],I,.dat⟩),
 (96,⟨[rW,I,I],I,.dat⟩),
 (97,⟨[.str],.bool,.dat⟩),
 (98,⟨[(.slice .str),I,.str],.bool,.dat⟩),
 (99,⟨[(.slice I),I,I],.bool,.dat⟩),
 (100,⟨[Y8,qz],(.tup [qz,(.slice lg)]),.dat⟩),
 (101,⟨[I],(.tup [I,.bool]),.dat⟩),
 (102,⟨[Y8,I,qz],(.nsl I),.dat⟩),
 (103,⟨[Y8,I,I,(.slice I)],(.tup [(.slice I),I]),.dat⟩),
 (104,⟨[Y5,I],(.tup [rW,I]),.dat⟩),
 (105,⟨[rW,(.slice lg)],lg,.dat⟩),
 (106,⟨[Y8],(.tup [(.slice .str),(.slice .str),(.slice .str)]),.dat⟩),
 (107,⟨[(.slice .str),I,(.fn [I] .bool)],I,.dat⟩),
 (108,⟨[I],.bool,.dat⟩),
 (109,⟨[I,(.ref Y8)],.bool,.dat⟩),
 (110,⟨[Y8,Y0],.bool,.dat⟩),
 (111,⟨[I,I],.bool,.dat⟩),
 (112,⟨[I,(.ref Y8)],.bool,.dat⟩),
 (113,⟨[I,(.ref Y8)],.bool,.dat⟩),
 (114,⟨[Y5],.bool,.dat⟩),
 (115,⟨[Y8],I,.dat⟩),
 (116,⟨[Y8],I,.dat⟩),
 (117,⟨[cJ,I,(.slice I)],.bool,.dat⟩),
 (118,⟨[cJ,I,I],.bool,.dat⟩),
 (119,⟨[I],.bool,.dat⟩),
 (126,⟨[(.int .u8)],.bool,.dat⟩),
 (127,⟨[Y8,qz],(.slice lg),.dat⟩),
 (128,⟨[Y8,I],I,.dat⟩),
 (129,⟨[Y8,I,I,(.slice I)],.bool,.dat⟩),
 (130,⟨[Y8,I,I,(.slice I)],(.tup [I,.bool]),.dat⟩),
 (131,⟨[(.slice Y4),(.fn [Y4] .bool)],I,.dat⟩),
 (132,⟨[Y4,(.ref I)],.bool,.dat⟩),
 (133,⟨[rW],(.tup [I,I]),.dat⟩),
 (134,⟨[VB,rW],(.tup [lg,(.slice I)]),.dat⟩),
 (135,⟨[(.slice .str),I],I,.dat⟩),
 (136,⟨[(.slice I),I,I],.bool,.dat⟩),
 (140,⟨[(.slice rV),(.fn [rV] .bool)],.bool,.dat⟩),
 (141,⟨[rV,(.ref qz)],.bool,.dat⟩),
 (142,⟨[.bool],lg,.dat⟩),
 (143,⟨[cJ,I,I],lg,.dat⟩),
 (144,⟨[(.slice I),(.fn [I] .bool)],.bool,.dat⟩),
 (145,⟨[I,(.ref I)],.bool,.dat⟩),
 (146,⟨[rW,I],I,.dat⟩),
 (147,⟨[rW],(.tup [I,I]),.dat⟩),
 (148,⟨[VB,I],lg,.dat⟩),
 (149,⟨[I,(.slice lg)],lg,.dat⟩),
 (150,⟨[(.slice (.slice I))],(.slice I),.dat⟩),
 (151,⟨[.str],.bool,.dat⟩),
 (152,⟨[(.slice .str),.str],.bool,.dat⟩),
 (156,⟨[(.slice rV),(.fn [rV] .bool)],I,.dat⟩),
 (157,⟨[(.slice I),(.fn [I] .bool)],I,.dat⟩),
 (158,⟨[rW],(.tup [I,I]),.dat⟩),
 (159,⟨[I],Y20,.dat⟩),
 (160,⟨[I],(.tup [I,.bool]),.dat⟩),
 (161,⟨[.bool],lg,.dat⟩),
 (162,⟨[I],I,.dat⟩),
 (163,⟨[I,I,I],I,.dat⟩),
 (164,⟨[.nils .bool,I],(.slice I),(.row 3 I)⟩),
 (165,⟨[(.slice .str),.str],I,.dat⟩),
 (171,⟨[I,I],I,.dat⟩),
 (173,⟨[(.int .u64),(.int .u64)],(.tup [(.int .u64),(.int .u64)]),.dat⟩)]
def Mz:List (Nat×CSig):=[
 (37,⟨[(.ref Y8)],[Y3],.bool⟩),
 (39,⟨[(.ref kc),(.ref cJ)],[],.bool⟩),
 (40,⟨[(.ref Y8),(.ref kc)],[],.bool⟩),
 (41,⟨[(.ref kc)],[],.bool⟩),
 (42,⟨[(.ref kc),(.ref (.fn [Y3] .bool))],[],.bool⟩),
 (44,⟨[(.ref cJ),(.ref kc)],[],.bool⟩),
 (64,⟨[(.ref cJ),(.ref I),(.ref I)],[(.fn [I,Y9] .bool)],(.tup [])⟩),
 (108,⟨[],[I],.bool⟩),
 (109,⟨[(.ref Y8)],[I],.bool⟩),
 (112,⟨[(.ref Y8)],[I],.bool⟩),
 (113,⟨[(.ref Y8)],[I],.bool⟩),
 (132,⟨[(.ref I)],[Y4],.bool⟩),
 (141,⟨[(.ref qz)],[rV],.bool⟩),
 (145,⟨[(.ref I)],[I],.bool⟩)]
def ctx:Ctx:={P:=Tryz.prog,cap:=bH Mz,sig:=bH vy,an0:=fun _=>none,glob:=Si 0 [6,7,10,12,13,14,15,16,20,21]}
abbrev KV (i:Nat):Sig:=(bH vy i).getD default
def cF (a b:List Nat)(f:Func)(i:Nat)(l:List Nat):Option PC:=lZ {ctx with fr:=a,nh:=b} f (KV i) l
theorem ba {o:Option PC}{t:PT}{l:List (Shp×PT)}(h:o.map told=some (t,l)):tree (ae o)=t:=bN (F:=fun _=>(t,l)) h
theorem aC (o:Option PC){p:PT×List (Shp×PT)}(h:o.map told=some p):o=some (ae o):=arB (F:=fun _=>p) h
theorem aG (l a b:List Nat){f:Nat}{fn:Func}{c:PC}(h0:ctx.P.funcs[f]?=some fn)(h1:ctx.sig f=some (KV f))(h2:lZ {ctx with fr:=a,nh:=b} fn (KV f) l=some c):∃fn s ids fr nh,ctx.P.funcs[f]?=some fn∧ctx.sig f=some s∧lZ {ctx with fr:=fr,nh:=nh} fn s ids=some c:=⟨fn,KV f,l,a,b,h0,h1,h2⟩
abbrev oC:PE:=.con (.agg [(.int 0),(.int 0),(.int 0),(.int 0),(.int 0),(.int 0),(.int 0),(.int 0),(.int 0),(.int 0),(.int 0),(.int 0),(.int 0),(.int 0),(.int 0),(.list []),(.list []),(.list []),(.list [])])
abbrev En:PE:=.setc (.con (.agg [(.list []),(.list []),(.list []),(.list []),(.list []),(.list []),(.list []),(.list [])])) 0 (.mk [(.lst [(.con (.v (.string ⟨#[102,114,97,110,99]⟩)))]),(.lst [(.mk [(.con (.v (.string ⟨#[76,121,111,110]⟩))),(pi 0),(pi 0),pL,pL,pL])]),(.lst [(.mk [(pi 0)])]),(.lst [(.mk [(.con (.v (.string ⟨#[66,111,100,109,101,114]⟩))),(pi 0),(pi 0)]),(.mk [(.con (.v (.string ⟨#[72,111,112,101]⟩))),(pi 0),(pi 0)]),(.mk [(.con (.v (.string ⟨#[82,105,99,99,105]⟩))),(pi 0),(pi 0)])]),(.lst [(.mk [(pc (.setc (.con (.agg [(.v (.string ⟨#[]⟩)),(.bool false),(.list []),(.list [])])) 0 (.mk [(.con (.v (.string ⟨#[103,101,110,101,118,97]⟩))),pF,pL,(.lst [(.mk [(pi 20),(.mk [(pi 0),(pi 30),pL])])])])) 0),(pc (.setc (.con (.agg [(.v (.string ⟨#[]⟩)),(.bool false),(.list []),(.list [])])) 0 (.mk [(.con (.v (.string ⟨#[103,101,110,101,118,97]⟩))),pF,pL,(.lst [(.mk [(pi 20),(.mk [(pi 0),(pi 30),pL])])])])) 1),pL,(pc (.setc (.con (.agg [(.v (.string ⟨#[]⟩)),(.bool false),(.list []),(.list [])])) 0 (.mk [(.con (.v (.string ⟨#[103,101,110,101,118,97]⟩))),pF,pL,(.lst [(.mk [(pi 20),(.mk [(pi 0),(pi 30),pL])])])])) 3)])]),pL,pL,pL])
abbrev lH:PE:=.setc (.setc (.setc oC 0 (.mk [(.mk [(pi 0),(pi 1),(pi 2),(pi 500),(pi 0),z3,(pi 2),(pi 0),(pi 0),(pi (-1)),(pi 0),(pi 0),(pi 1)]),pL,pL,pL,pL])) 15 pN) 15 pN
abbrev gy:PE:=.setc z3 0 (.mk [(pc (.mk [r0]) 5),(pc (.mk [r0]) 6),(pc (.mk [r0]) 7)])
abbrev gf:PE:=.con (.agg [(.bool false),(.int 0)])
abbrev rk:PE:=.deref (.con (.ref (.agg [(.int 6),(.int 7),(.int 10),(.int 12),(.int 13),(.int 14),(.int 15),(.int 16),(.int 20),(.int 21)])))
abbrev lK:PE:=.setc cT 0 (.mk [FQ,pL,pL,pL,pL])
abbrev J1:PE:=.put (.put (.put (.put (.con (.map [])) (pi 7) (aR (.ai .and .i64 (pc o6 13) (pi 1)) (pi 0))) (pi 8) (af (pc o6 2) (pi (-1)))) (pi 9) (aR (.ai .and .i64 (pc o6 13) (pi 4)) (pi 0))) (pi 10) (aR (.ai .and .i64 (pc o6 13) (pi 2)) (pi 0))
abbrev A6:PE:=.con (.agg [(.list []),(.int 0),(.int 0),(.bool false),(.int 0),(.list [])])
abbrev my:PE:=.con (.agg [(.int 0),(.int 0),(.list [])])
abbrev kY:PE:=.setc z9 0 (pn (pc (.mk [r1]) 15) r2)
abbrev tp:PE:=.con (.agg [(.int 0),(.int 0),(.bool false)])
abbrev Em:PE:=.setc (.con (.agg [(.int 0),(.int 0),(.int 0),(.int 0),(.int 0),(.list [])])) 0 (.mk [(pi 0),(pi 0),(pi 2),(pi 10),(pi 12),pL])
abbrev cL:PE:=pi 4294967296
abbrev lF:PE:=.con (.agg [(.list []),(.int 0)])
abbrev abY:PE:=.pick (.pick (.pick (af (pc (.setc z9 0 (pn cg cj)) 0) (pi 2)) (af (pc (.setc z9 0 (pn cg cj)) 1) (.deref r3)) pF) (bU (pc (.setc z9 0 (pn cg cj)) 6) (.deref r2)) pF) (.nt (.look r5 cj pF)) pF
abbrev lG:PE:=.setc cT 0 (.setc jy 17 pN)
abbrev A0:PE:=.mk [(pc (.setc gf 0 fP) 0),(pc (.setc gf 0 fP) 1)]
abbrev abZ:PE:=.lst [(.mk [(.clo 39 [(.ref (ax 6 o5)),(.ref (ax 19 o4))]),(pi 15)]),(.mk [(.clo 40 [(.ref (ax 8 o3)),(.ref (ax 6 o5))]),(pi 1)]),(.mk [(.clo 41 [(.ref (ax 6 o5))]),(pi 6)]),(.mk [(.clo 42 [(.ref (ax 6 o5)),(.ref (pc (.setc (.con (.agg [(.v .nilFunc)])) 0 (.clo 37 [(.ref (ax 8 o3))])) 0))]),(pi 1)]),(.mk [(.clo 44 [(.ref (ax 19 o4)),(.ref (ax 6 o5))]),(pi 13)])]
abbrev A1:PE:=.setc z9 0 (pn (pc (.mk [r2]) 15) (pc (.mk [r2]) 19))
abbrev jX:PE:=.setc (.mk [r3]) 18 pL
abbrev QF:PE:=.put (.put (.put (.con (.map [])) (pi 0) (pc o6 3)) (pi 1) (pc o6 14)) (pi 2) (pc o6 5)
abbrev JX:PE:=.pick (.pick (af (.tget qh 0) (pi 0)) (pc cT 0) pF) (.setc cT 1 (.mn (.mx (pc cT 1) (pi 0)) (pi 20000))) cT
abbrev Eo:PE:=.mk [(pc (.setc o4 0 (.mk [pF,(pi 0)])) 0),(pc (.setc o4 0 (.mk [pF,(pi 0)])) 1)]
abbrev A2:PE:=.con (.agg [(.bool false),(.int 0),(.int 0),(.list []),(.int 0)])
abbrev ab0:PE:=.ai .add .u64 (.ai .mul .u64 (.ai .shr .u64 r0 (.con (.v (.int .u64 32)))) (.ai .and .u64 r1 (.con (.v (.int .u64 4294967295))))) (.ai .shr .u64 (.ai .mul .u64 (.ai .and .u64 r0 (.con (.v (.int .u64 4294967295)))) (.ai .and .u64 r1 (.con (.v (.int .u64 4294967295))))) (.con (.v (.int .u64 32))))
abbrev xG:PE:=.setc (.setc cT 3 (.tget J7 0)) 4 (.tget J7 1)
abbrev jY:PE:=ax 8 (.mk [r0])
abbrev tq:PE:=pc (.mk [r0]) 2
abbrev qa:PE:=af (pc o5 8) (pi 0)
abbrev ab1:PE:=.mk [(pc lK 0),(pc lK 1),(pc lK 2),(pc lK 3),(pc lK 4),(pc lK 5),(pc lK 6),(pc lK 7),(pc lK 8),(pc lK 9),(pc lK 10),(pc lK 11),(pc lK 12),(pc lK 13),(pc lK 14),pL,pL,pL,pL]
abbrev QG:PE:=.con (.agg [(.list []),(.list []),(.list []),(.list []),(.list []),(.list []),(.list []),(.list [])])
abbrev lI:PE:=.llen (pc o1 1)
abbrev mz:PE:=pc (.mk [r0]) 15
abbrev JY:PE:=.mk [(pc o3 0),(pc o3 1),(pc o3 2),(pc o3 3),(pc o3 4),(.o 24579)]
abbrev ab2:PE:=.pick (.pick (.pick (aV (.llen (pc (.mk [r1]) 15)) (pi 40)) pT (aV (.llen (pc (.mk [r1]) 16)) (pi 4))) pT (aV (.llen (pc (.mk [r1]) 17)) (pi 100))) pT (aV (.llen (pc (.mk [r1]) 18)) (pi 200))
abbrev QH:PE:=.mk [(pc (.setc o4 0 (.mk [(pi 0),(pi 0),pL])) 0),(pc (.setc o4 0 (.mk [(pi 0),(pi 0),pL])) 1),pL]
abbrev ab3:PE:=.app pL (.lst [(.mk [(pi 0),(pi 0),(pi 0),(pi (-1)),(pi (-1)),(pi 0),(pi 2),(pi 0),(pi 0)])])
abbrev mA:PE:=pc (.mk [r0]) 0
abbrev oD:PE:=pi 1099511627776
abbrev Ep:PE:=.pick r7 (af (pc o5 4) (pi (-1))) pF
abbrev xH:PE:=bK (.llen (pc o3 3)) (pi 1)
abbrev lJ:PE:=.setc o4 0 o5
abbrev nv:PE:=.llen (pc o1 3)
abbrev QI:PE:=ax 5 (.setc o8 0 (.mk [(pc cT 0),(pc cT 1),(pc cT 2),(.o 16394),(pc cT 4)]))
abbrev oE:PE:=.llen (pc o3 2)
abbrev oF:PE:=.llen (pc o1 4)
abbrev tu:PE:=pn (pc o5 17) (pi 0)
abbrev tw:PE:=af (pc o5 5) (pi 0)
abbrev ab4:PE:=.pick (.pick (af (.tget jz 0) (.con (.v (.int .u64 0)))) (aj (.tget jz 1) (.con (.v (.int .u64 1099511627776)))) pF) (.conv .i64 (.tget jz 1)) oD
abbrev ab5:PE:=.pick (.pick (.pick (aj (pc A1 2) (pi 0)) pT (cX (pc A1 2) (.llen (pc (.mk [r0]) 3)))) pT (aj r1 (pi 0))) pT (cX r1 (.llen (pc (.mk [r0]) 4)))
abbrev qd:PE:=.llen (pc o3 15)
abbrev QJ:PE:=.put (.con (.map [])) (pi 7) (aR (.ai .and .i64 (pc o6 13) (pi 1)) (pi 0))
abbrev A3:PE:=.setc (.setc o7 1 la) 3 rz
abbrev ab6:PE:=.app o2 (.lst [(pc (.setc (.con (.agg [(.v (.string ⟨#[]⟩)),(.int 0),(.int 0),(.list []),(.list []),(.list [])])) 0 (pn cg cj)) 0)])
abbrev xI:PE:=.setc z9 0 (pn bF dD)
abbrev ab7:PE:=.pick (.pick (cX (pc gy 1) (pi 1)) (bU (pc gy 1) (pi 400)) pF) (.pick (af (pc gy 2) (pi 0)) pT (af (pc gy 2) (pi 1))) pF
abbrev ab8:PE:=.pick (.nt (.nt (.an (.an abY pT) (.nt pF)))) (.app (.o 1000) (.lst [(.tup [cj,(ax 9 (.setc z9 0 (pn cg cj)))])])) (.o 1000)
abbrev Er:PE:=bK (pi 2) (pc (pn o7 (pi 0)) 1)
abbrev ab9:PE:=.pick (af (pc o5 0) (pi 0)) (af (pc o5 0) (pi 0)) (.pick (af (pc o5 0) (pi 1)) (af (pc o5 0) (pi 1)) (af (pc o5 0) (pi 2)))
abbrev JZ:PE:=.setc my 0 (.sub (pn (pc o2 3) mB) 1 3)
abbrev rl:PE:=.llen (pc o1 2)
abbrev aca:PE:=.app o4 (.lst [(pc (.setc (.con (.agg [(.v (.string ⟨#[]⟩)),(.bool false),(.list []),(.list [])])) 0 (pn fQ qj)) 0)])
abbrev rn:PE:=bu r8 (pi 1)
abbrev A4:PE:=.con (.v (.int .u64 32))
abbrev acb:PE:=.app Jp (.lst [(.mk [(pi 7),(pc o8 2),(pi (-1)),(pc o8 1),kZ,(pi 0),r4,(pc (pn (pc o5 3) (pc o8 2)) 1),(pi 0)])])
abbrev acd:PE:=.put (.put (.put J1 (pi 11) (aR J5 QR)) (pi 12) dD) (pi 13) (aR (.ai .and .i64 (pc o8 8) (pi 1)) (pi 0))
abbrev qe:PE:=pn r1 (pi 1)
abbrev A5:PE:=af (pc o5 2) (pi (-1))
abbrev ve:PE:=pc (.mk [r0]) 18
abbrev J0:PE:=.pick (cX r0 (pi 0)) (aj r0 r1) pF
abbrev QK:PE:=.put (.put QF (pi 3) (pc o6 12)) (pi 4) (pc o8 0)
abbrev ace:PE:=.pick (aV (.llen (pc (pn (pc o1 1) r3) 4)) (pi 70)) pT (aV (.llen (pc (pn (pc o1 1) r3) 5)) (pi 210))
abbrev Es:PE:=.setc tp 0 (pn mB iX)
abbrev QL:PE:=.pick (.nt (pc o7 3)) (aR (pc mm 2) (pc o7 1)) pF
abbrev qf:PE:=.llen tq
abbrev acf:PE:=.app o3 (.lst [(pc (.setc (.con (.agg [(.v (.string ⟨#[]⟩)),(.int 0),(.int 0)])) 0 (pn iX fP)) 0)])
abbrev acg:PE:=.app o4 (.lst [(pc (.setc (.con (.agg [(.int 0),(.int 0),(.int 0),(.list [])])) 0 (pn fP mC)) 0)])
abbrev vf:PE:=.llen (pc o1 0)
abbrev ach:PE:=.an (.cb .eql (pc (pn r1 (pi 0)) 0) (pc A0 0)) (.an (af (pc (pn r1 (pi 0)) 1) (pc A0 1)) pT)
abbrev aci:PE:=.app (.o 69637) (.lst [(.mk [(pc (.setc z2 0 (pn rz ql)) 0),(pc (.setc z2 0 (pn rz ql)) 1)])])
abbrev tz:PE:=af r5 (pi 0)
abbrev QM:PE:=.setc o4 0 (.mk [(pc o9 0),(pc o9 1),(pc o9 2)])
abbrev acj:PE:=.app ab3 (.lst [(.mk [(pi 2),(pi 0),(pi 2),(pi (-1)),(pi 1),(pi 0),(pi 20),(pi 0),(pi 0)])])
abbrev Et:PE:=aV (pc mm 6) (pc o8 0)
abbrev ack:PE:=.setc (.con (.agg [(.int 0),(.int 0),(.int 0),(.int 0),(.int 0),(.list [])])) 0 (.tget cg 2)
abbrev vg:PE:=bu r3 (pi 1)
abbrev QN:PE:=af (pc (pn (pc o4 15) (pc o5 4)) 2) (pc o5 1)
abbrev acm:PE:=.setc o4 0 (.mk [(pc (.setc gf 0 (.tget rp 0)) 0),(pc (.setc gf 0 (.tget rp 0)) 1)])
abbrev J2:PE:=pc (pn (pc o4 15) (pc o7 3)) 0
abbrev J3:PE:=.setc gf 0 (.mk [pT,(pi 1)])
abbrev J4:PE:=.setc gf 0 (.mk [pT,(pi 0)])
abbrev xJ:PE:=pn (pc o1 4) r4
abbrev QO:PE:=af (.sidx r0 r3) (.con (.v (.int .u8 95)))
abbrev xK:PE:=pc (.mk [r0]) 1
abbrev QP:PE:=.setc z3 0 (pn (pc o2 18) (bK r1 (pi 1)))
abbrev xL:PE:=.mk [pF,(pi 0)]
abbrev xM:PE:=.llen (pc o1 7)
abbrev tA:PE:=aj cj dD
abbrev QC:PE:=.app o5 (.lst [(pc (pn (pc o1 1) r6) 0)])
abbrev QD:PE:=.app o4 (.lst [(pc (pn (pc o1 3) r5) 0)])
abbrev xF:PE:=bK r2 (pi 1)
abbrev JQ:PE:=aj cM (.llen (pc o3 18))
abbrev JR:PE:=.setc oC 0 (.tget rq 0)
abbrev AW:PE:=.llen (pc o3 16)
abbrev abP:PE:=.pick (af (pc o5 0) (pi 7)) (af (pc o5 0) (pi 7)) (af (pc o5 0) (pi 8))
abbrev abQ:PE:=.pick (af (pc o5 0) (pi 3)) (af (pc o5 0) (pi 3)) (af (pc o5 0) (pi 5))
abbrev tn:PE:=pn cM cg
abbrev JS:PE:=aj r9 (.llen (pc o3 17))
abbrev JT:PE:=ar (pc (.mk [r1]) 15) r2
abbrev AX:PE:=pc (.mk [r0]) 5
abbrev AY:PE:=.llen (pc o1 5)
abbrev abR:PE:=.setc o4 0 (.mk [(pc (.setc gf 0 Kd) 0),(pc (.setc gf 0 Kd) 1)])
abbrev abS:PE:=.setc o4 0 (.mk [(pc (.setc gf 0 jA) 0),(pc (.setc gf 0 jA) 1)])
abbrev abT:PE:=.setc (.con (.agg [(.v .nilFunc),(.int 0)])) 0 (.sub (pn Z2 oH) 0 2)
abbrev abU:PE:=.pick (.pick Ep r8 pF) (.pick qa pT (af (pc o5 8) (pi 1))) pF
abbrev abV:PE:=.setc lF 0 (.mk [(.lst [(pi 1),(pi (-1)),(pi (-1))]),(pi (-1))])
abbrev abW:PE:=.pick (aR (pc o3 22) (pi (-1))) (bK (pc o8 6) (pc o3 22)) (pi 0)
abbrev JU:PE:=.llen (pc (.mk [r0]) 4)
abbrev QE:PE:=.ai .rem .i64 (pn r8 cM) (pi 100)
abbrev AZ:PE:=bu r5 (pi 1)
abbrev Ek:PE:=ax 19 (.mk [r1])
abbrev El:PE:=.setc A6 0 J5
abbrev abX:PE:=.app (.o 77829) (.lst [(.mk [(pc jy 0),(pc jy 1),(pc jy 2)])])
abbrev JV:PE:=af (pc gy 2) (pi 0)
abbrev JW:PE:=.con (.agg [(.int 0)])
end Rm
