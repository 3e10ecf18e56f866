/-
  Shared texts of this claim.
-/
import Derived.Test.YtmnnipoiigfapaaGreatDoorKAJ
import Derived.Test.YtmnnipoiigfapaaGreatDoorProg
set_option linter.unusedSimpArgs false
set_option linter.unusedVariables false
noncomputable section
namespace Rm
open Go Cx
abbrev str (b:ByteArray):D:=.v (.string b)
def strs (l:List ByteArray):D:=.list (l.map str)
@[simp] theorem aot (l:List ByteArray):(strs l).l=l.map str:=_root_.id rfl
theorem str_inv {d:D}(h:DTy .str d):∃b,d=str b:=by
 cases h with
 |str b=>exact⟨b,rfl⟩
 |other t d h=>exact h.elim
theorem aos {d:D}(h:DTy (.slice .str) d):∃l:List ByteArray,d=strs l∧l.length≤maxLen:=by
 obtain⟨xs,rfl,hm,hx⟩:=h.slice_inv;obtain⟨l,rfl,hl⟩:=jD (enc:=str) (P:=fun _=>True) fun x hh=>(str_inv (hx x hh)).imp fun b hb=>⟨hb,trivial⟩
 exact⟨l,rfl,by simpa using hm⟩
@[simp] theorem atA (t:Tm):(dD t).cells=[.int t.op,.int t.n,.list (t.args.map dD)]:=by rw[BJ];rfl
@[simp] theorem atC (t:Tm):D.agg [.int t.op,.int t.n,.list (t.args.map dD)]=dD t:=(BJ t).symm
@[simp] theorem atx (t:Tm):(dD t).c 0=.int t.op:=by rw[BJ];rfl
@[simp] theorem aty (t:Tm):(dD t).c 1=.int t.n:=by rw[BJ];rfl
@[simp] theorem atz (t:Tm):(dD t).c 2=.list (t.args.map dD):=by rw[BJ];rfl
structure City where
 name:ByteArray
 order:Int
 currency:Int
 rest:List Int
 feasts:List Int
 shut:List Int
 deriving Inhabited
def kO (x:City):D:=.agg [str x.name,.int x.order,.int x.currency,ints x.rest,ints x.feasts,ints x.shut]
@[simp] theorem asc (x:City):(kO x).cells=[str x.name,.int x.order,.int x.currency,ints x.rest,ints x.feasts,ints x.shut]:=_root_.id rfl
@[simp] theorem awS (x:City):D.agg [str x.name,.int x.order,.int x.currency,ints x.rest,ints x.feasts,ints x.shut]=kO x:=_root_.id rfl
@[simp] theorem ar6 (x:City):(kO x).c 0=str x.name:=_root_.id rfl
@[simp] theorem ar7 (x:City):(kO x).c 1=.int x.order:=_root_.id rfl
@[simp] theorem ar8 (x:City):(kO x).c 2=.int x.currency:=_root_.id rfl
@[simp] theorem ar9 (x:City):(kO x).c 3=ints x.rest:=_root_.id rfl
@[simp] theorem asa (x:City):(kO x).c 4=ints x.feasts:=_root_.id rfl
@[simp] theorem asb (x:City):(kO x).c 5=ints x.shut:=_root_.id rfl
def vn (l:List City):D:=.list (l.map kO)
@[simp] theorem aup (l:List City):(vn l).l=l.map kO:=_root_.id rfl
abbrev SP:Ty:=.agg [.str,.int .i64,.int .i64,.slice (.int .i64),.slice (.int .i64),.slice (.int .i64)]
def City.OK (x:City):Prop:=aN x.order∧aN x.currency∧(x.rest.length≤maxLen∧∀y,y∈x.rest→aN y)∧(x.feasts.length≤maxLen∧∀y,y∈x.feasts→aN y)∧(x.shut.length≤maxLen∧∀y,y∈x.shut→aN y)
theorem adw {d:D}(h:DTy SP d):∃x:City,d=kO x∧x.OK:=by
 obtain⟨ds,rfl,hs⟩:=h.agg_inv;obtain⟨d0,ds,rfl,h0,hs⟩:=hs.cons_inv;obtain⟨d1,ds,rfl,h1,hs⟩:=hs.cons_inv;obtain⟨d2,ds,rfl,h2,hs⟩:=hs.cons_inv;obtain⟨d3,ds,rfl,h3,hs⟩:=hs.cons_inv;obtain⟨d4,ds,rfl,h4,hs⟩:=hs.cons_inv;obtain⟨d5,ds,rfl,h5,hs⟩:=hs.cons_inv;obtain rfl:=hs.nil_inv;obtain⟨n0,rfl⟩:=str_inv h0;obtain⟨n1,rfl,b1⟩:=h1.i64_inv;obtain⟨n2,rfl,b2⟩:=h2.i64_inv;obtain⟨n3,rfl,b3,c3⟩:=h3.ints_inv;obtain⟨n4,rfl,b4,c4⟩:=h4.ints_inv;obtain⟨n5,rfl,b5,c5⟩:=h5.ints_inv;exact⟨⟨n0,n1,n2,n3,n4,n5⟩,rfl,⟨b1,b2,⟨b3,c3⟩,⟨b4,c4⟩,⟨b5,c5⟩⟩⟩
theorem adx {d:D}(h:DTy (.slice SP) d):∃l:List City,d=vn l∧l.length≤maxLen∧∀y,y∈l→City.OK y:=by
 obtain⟨xs,rfl,hm,hx⟩:=h.slice_inv;obtain⟨l,rfl,hl⟩:=jD (enc:=kO) (P:=City.OK) fun x hh=>adw (hx x hh);exact⟨l,rfl,by simpa using hm,hl⟩
structure Firm where
 name:ByteArray
 city:Int
 group:Int
 deriving Inhabited
def rE (x:Firm):D:=.agg [str x.name,.int x.city,.int x.group]
@[simp] theorem asG (x:Firm):(rE x).cells=[str x.name,.int x.city,.int x.group]:=_root_.id rfl
@[simp] theorem awV (x:Firm):D.agg [str x.name,.int x.city,.int x.group]=rE x:=_root_.id rfl
@[simp] theorem asD (x:Firm):(rE x).c 0=str x.name:=_root_.id rfl
@[simp] theorem asE (x:Firm):(rE x).c 1=.int x.city:=_root_.id rfl
@[simp] theorem asF (x:Firm):(rE x).c 2=.int x.group:=_root_.id rfl
def firms (l:List Firm):D:=.list (l.map rE)
@[simp] theorem avH (l:List Firm):(firms l).l=l.map rE:=_root_.id rfl
abbrev SR:Ty:=.agg [.str,.int .i64,.int .i64]
def Firm.OK (x:Firm):Prop:=aN x.city∧aN x.group
theorem ae5 {d:D}(h:DTy SR d):∃x:Firm,d=rE x∧x.OK:=by
 obtain⟨ds,rfl,hs⟩:=h.agg_inv;obtain⟨d0,ds,rfl,h0,hs⟩:=hs.cons_inv;obtain⟨d1,ds,rfl,h1,hs⟩:=hs.cons_inv;obtain⟨d2,ds,rfl,h2,hs⟩:=hs.cons_inv;obtain rfl:=hs.nil_inv;obtain⟨n0,rfl⟩:=str_inv h0;obtain⟨n1,rfl,b1⟩:=h1.i64_inv;obtain⟨n2,rfl,b2⟩:=h2.i64_inv;exact⟨⟨n0,n1,n2⟩,rfl,⟨b1,b2⟩⟩
theorem ae6 {d:D}(h:DTy (.slice SR) d):∃l:List Firm,d=firms l∧l.length≤maxLen∧∀y,y∈l→Firm.OK y:=by
 obtain⟨xs,rfl,hm,hx⟩:=h.slice_inv;obtain⟨l,rfl,hl⟩:=jD (enc:=rE) (P:=Firm.OK) fun x hh=>ae5 (hx x hh);exact⟨l,rfl,by simpa using hm,hl⟩
structure Group where
 grade:Int
 deriving DecidableEq,Inhabited
def vt (x:Group):D:=.agg [.int x.grade]
@[simp] theorem asI (x:Group):(vt x).cells=[.int x.grade]:=_root_.id rfl
@[simp] theorem awW (x:Group):D.agg [.int x.grade]=vt x:=_root_.id rfl
@[simp] theorem asH (x:Group):(vt x).c 0=.int x.grade:=_root_.id rfl
def groups (l:List Group):D:=.list (l.map vt)
@[simp] theorem avQ (l:List Group):(groups l).l=l.map vt:=_root_.id rfl
abbrev SS:Ty:=.agg [.int .i64]
def Group.OK (x:Group):Prop:=aN x.grade
theorem agp {d:D}(h:DTy SS d):∃x:Group,d=vt x∧x.OK:=by
 obtain⟨ds,rfl,hs⟩:=h.agg_inv;obtain⟨d0,ds,rfl,h0,hs⟩:=hs.cons_inv;obtain rfl:=hs.nil_inv;obtain⟨n0,rfl,b0⟩:=h0.i64_inv;exact⟨⟨n0⟩,rfl,b0⟩
theorem agq {d:D}(h:DTy (.slice SS) d):∃l:List Group,d=groups l∧l.length≤maxLen∧∀y,y∈l→Group.OK y:=by
 obtain⟨xs,rfl,hm,hx⟩:=h.slice_inv;obtain⟨l,rfl,hl⟩:=jD (enc:=vt) (P:=Group.OK) fun x hh=>agp (hx x hh);exact⟨l,rfl,by simpa using hm,hl⟩
structure Usance where
 fr:Int
 to:Int
 days:Int
 deriving DecidableEq,Inhabited
def rI (x:Usance):D:=.agg [.int x.fr,.int x.to,.int x.days]
@[simp] theorem atL (x:Usance):(rI x).cells=[.int x.fr,.int x.to,.int x.days]:=_root_.id rfl
@[simp] theorem aw8 (x:Usance):D.agg [.int x.fr,.int x.to,.int x.days]=rI x:=_root_.id rfl
@[simp] theorem atI (x:Usance):(rI x).c 0=.int x.fr:=_root_.id rfl
@[simp] theorem atJ (x:Usance):(rI x).c 1=.int x.to:=_root_.id rfl
@[simp] theorem atK (x:Usance):(rI x).c 2=.int x.days:=_root_.id rfl
def usances (l:List Usance):D:=.list (l.map rI)
@[simp] theorem aya (l:List Usance):(usances l).l=l.map rI:=_root_.id rfl
abbrev S4:Ty:=.agg [.int .i64,.int .i64,.int .i64]
def Usance.OK (x:Usance):Prop:=aN x.fr∧aN x.to∧aN x.days
theorem aqU {d:D}(h:DTy S4 d):∃x:Usance,d=rI x∧x.OK:=by
 obtain⟨ds,rfl,hs⟩:=h.agg_inv;obtain⟨d0,ds,rfl,h0,hs⟩:=hs.cons_inv;obtain⟨d1,ds,rfl,h1,hs⟩:=hs.cons_inv;obtain⟨d2,ds,rfl,h2,hs⟩:=hs.cons_inv;obtain rfl:=hs.nil_inv;obtain⟨n0,rfl,b0⟩:=h0.i64_inv;obtain⟨n1,rfl,b1⟩:=h1.i64_inv;obtain⟨n2,rfl,b2⟩:=h2.i64_inv;exact⟨⟨n0,n1,n2⟩,rfl,⟨b0,b1,b2⟩⟩
theorem aqV {d:D}(h:DTy (.slice S4) d):∃l:List Usance,d=usances l∧l.length≤maxLen∧∀y,y∈l→Usance.OK y:=by
 obtain⟨xs,rfl,hm,hx⟩:=h.slice_inv;obtain⟨l,rfl,hl⟩:=jD (enc:=rI) (P:=Usance.OK) fun x hh=>aqU (hx x hh);exact⟨l,rfl,by simpa using hm,hl⟩
structure Rate where
 fr:Int
 to:Int
 num:Int
 den:Int
 since:Int
 deriving DecidableEq,Inhabited
def oJ (x:Rate):D:=.agg [.int x.fr,.int x.to,.int x.num,.int x.den,.int x.since]
@[simp] theorem as7 (x:Rate):(oJ x).cells=[.int x.fr,.int x.to,.int x.num,.int x.den,.int x.since]:=_root_.id rfl
@[simp] theorem aw1 (x:Rate):D.agg [.int x.fr,.int x.to,.int x.num,.int x.den,.int x.since]=oJ x:=_root_.id rfl
@[simp] theorem as2 (x:Rate):(oJ x).c 0=.int x.fr:=_root_.id rfl
@[simp] theorem as3 (x:Rate):(oJ x).c 1=.int x.to:=_root_.id rfl
@[simp] theorem as4 (x:Rate):(oJ x).c 2=.int x.num:=_root_.id rfl
@[simp] theorem as5 (x:Rate):(oJ x).c 3=.int x.den:=_root_.id rfl
@[simp] theorem as6 (x:Rate):(oJ x).c 4=.int x.since:=_root_.id rfl
def rates (l:List Rate):D:=.list (l.map oJ)
@[simp] theorem axD (l:List Rate):(rates l).l=l.map oJ:=_root_.id rfl
abbrev SX:Ty:=.agg [.int .i64,.int .i64,.int .i64,.int .i64,.int .i64]
def Rate.OK (x:Rate):Prop:=aN x.fr∧aN x.to∧aN x.num∧aN x.den∧aN x.since
theorem ant {d:D}(h:DTy SX d):∃x:Rate,d=oJ x∧x.OK:=by
 obtain⟨ds,rfl,hs⟩:=h.agg_inv;obtain⟨d0,ds,rfl,h0,hs⟩:=hs.cons_inv;obtain⟨d1,ds,rfl,h1,hs⟩:=hs.cons_inv;obtain⟨d2,ds,rfl,h2,hs⟩:=hs.cons_inv;obtain⟨d3,ds,rfl,h3,hs⟩:=hs.cons_inv;obtain⟨d4,ds,rfl,h4,hs⟩:=hs.cons_inv;obtain rfl:=hs.nil_inv;obtain⟨n0,rfl,b0⟩:=h0.i64_inv;obtain⟨n1,rfl,b1⟩:=h1.i64_inv;obtain⟨n2,rfl,b2⟩:=h2.i64_inv;obtain⟨n3,rfl,b3⟩:=h3.i64_inv;obtain⟨n4,rfl,b4⟩:=h4.i64_inv;exact⟨⟨n0,n1,n2,n3,n4⟩,rfl,⟨b0,b1,b2,b3,b4⟩⟩
theorem anu {d:D}(h:DTy (.slice SX) d):∃l:List Rate,d=rates l∧l.length≤maxLen∧∀y,y∈l→Rate.OK y:=by
 obtain⟨xs,rfl,hm,hx⟩:=h.slice_inv;obtain⟨l,rfl,hl⟩:=jD (enc:=oJ) (P:=Rate.OK) fun x hh=>ant (hx x hh);exact⟨l,rfl,by simpa using hm,hl⟩
structure Halt where
 order:Int
 fr:Int
 to:Int
 deriving DecidableEq,Inhabited
def rF (x:Halt):D:=.agg [.int x.order,.int x.fr,.int x.to]
@[simp] theorem asM (x:Halt):(rF x).cells=[.int x.order,.int x.fr,.int x.to]:=_root_.id rfl
@[simp] theorem awX (x:Halt):D.agg [.int x.order,.int x.fr,.int x.to]=rF x:=_root_.id rfl
@[simp] theorem asJ (x:Halt):(rF x).c 0=.int x.order:=_root_.id rfl
@[simp] theorem asK (x:Halt):(rF x).c 1=.int x.fr:=_root_.id rfl
@[simp] theorem asL (x:Halt):(rF x).c 2=.int x.to:=_root_.id rfl
def halts (l:List Halt):D:=.list (l.map rF)
@[simp] theorem avZ (l:List Halt):(halts l).l=l.map rF:=_root_.id rfl
abbrev SU:Ty:=.agg [.int .i64,.int .i64,.int .i64]
def Halt.OK (x:Halt):Prop:=aN x.order∧aN x.fr∧aN x.to
theorem agV {d:D}(h:DTy SU d):∃x:Halt,d=rF x∧x.OK:=by
 obtain⟨ds,rfl,hs⟩:=h.agg_inv;obtain⟨d0,ds,rfl,h0,hs⟩:=hs.cons_inv;obtain⟨d1,ds,rfl,h1,hs⟩:=hs.cons_inv;obtain⟨d2,ds,rfl,h2,hs⟩:=hs.cons_inv;obtain rfl:=hs.nil_inv;obtain⟨n0,rfl,b0⟩:=h0.i64_inv;obtain⟨n1,rfl,b1⟩:=h1.i64_inv;obtain⟨n2,rfl,b2⟩:=h2.i64_inv;exact⟨⟨n0,n1,n2⟩,rfl,⟨b0,b1,b2⟩⟩
theorem agW {d:D}(h:DTy (.slice SU) d):∃l:List Halt,d=halts l∧l.length≤maxLen∧∀y,y∈l→Halt.OK y:=by
 obtain⟨xs,rfl,hm,hx⟩:=h.slice_inv;obtain⟨l,rfl,hl⟩:=jD (enc:=rF) (P:=Halt.OK) fun x hh=>agV (hx x hh);exact⟨l,rfl,by simpa using hm,hl⟩
structure Choice where
 ask:Int
 by_:Int
 whole:Bool
 deriving DecidableEq,Inhabited
def tq (x:Choice):D:=.agg [.int x.ask,.int x.by_,.bool x.whole]
@[simp] theorem ar5 (x:Choice):(tq x).cells=[.int x.ask,.int x.by_,.bool x.whole]:=_root_.id rfl
@[simp] theorem awR (x:Choice):D.agg [.int x.ask,.int x.by_,.bool x.whole]=tq x:=_root_.id rfl
@[simp] theorem ar3 (x:Choice):(tq x).c 0=.int x.ask:=_root_.id rfl
@[simp] theorem ar4 (x:Choice):(tq x).c 1=.int x.by_:=_root_.id rfl
def choices (l:List Choice):D:=.list (l.map tq)
@[simp] theorem auo (l:List Choice):(choices l).l=l.map tq:=_root_.id rfl
abbrev SO:Ty:=.agg [.int .i64,.int .i64,.bool]
def Choice.OK (x:Choice):Prop:=aN x.ask∧aN x.by_
theorem adt {d:D}(h:DTy SO d):∃x:Choice,d=tq x∧x.OK:=by
 obtain⟨ds,rfl,hs⟩:=h.agg_inv;obtain⟨d0,ds,rfl,h0,hs⟩:=hs.cons_inv;obtain⟨d1,ds,rfl,h1,hs⟩:=hs.cons_inv;obtain⟨d2,ds,rfl,h2,hs⟩:=hs.cons_inv;obtain rfl:=hs.nil_inv;obtain⟨n0,rfl,b0⟩:=h0.i64_inv;obtain⟨n1,rfl,b1⟩:=h1.i64_inv;obtain⟨n2,rfl⟩:=h2.bool_inv;exact⟨⟨n0,n1,n2⟩,rfl,⟨b0,b1⟩⟩
theorem adu {d:D}(h:DTy (.slice SO) d):∃l:List Choice,d=choices l∧l.length≤maxLen∧∀y,y∈l→Choice.OK y:=by
 obtain⟨xs,rfl,hm,hx⟩:=h.slice_inv;obtain⟨l,rfl,hl⟩:=jD (enc:=tq) (P:=Choice.OK) fun x hh=>adt (hx x hh);exact⟨l,rfl,by simpa using hm,hl⟩
structure Rule where
 ask:Int
 term:Tm
 deriving Inhabited
def rG (x:Rule):D:=.agg [.int x.ask,.int x.term.op,.int x.term.n,.list (x.term.args.map dD)]
@[simp] theorem ati (x:Rule):(rG x).cells=[.int x.ask,.int x.term.op,.int x.term.n,.list (x.term.args.map dD)]:=_root_.id rfl
@[simp] theorem aw3 (x:Rule):D.agg [.int x.ask,.int x.term.op,.int x.term.n,.list (x.term.args.map dD)]=rG x:=_root_.id rfl
@[simp] theorem ath (x:Rule):(rG x).c 0=.int x.ask:=_root_.id rfl
def rules (l:List Rule):D:=.list (l.map rG)
@[simp] theorem axH (l:List Rule):(rules l).l=l.map rG:=_root_.id rfl
abbrev SY:Ty:=.agg [.int .i64,.int .i64,.int .i64,.slice .trm]
def Rule.OK (x:Rule):Prop:=aN x.ask∧Tm.OK x.term
theorem an0 {d:D}(h:DTy SY d):∃x:Rule,d=rG x∧x.OK:=by
 obtain⟨ds,rfl,hs⟩:=h.agg_inv;obtain⟨d0,ds,rfl,h0,hs⟩:=hs.cons_inv;obtain⟨d1,ds,rfl,h1,hs⟩:=hs.cons_inv;obtain⟨d2,ds,rfl,h2,hs⟩:=hs.cons_inv;obtain⟨d3,ds,rfl,h3,hs⟩:=hs.cons_inv;obtain rfl:=hs.nil_inv;obtain⟨n0,rfl,b0⟩:=h0.i64_inv;obtain⟨n1,rfl,b1⟩:=h1.i64_inv;obtain⟨n2,rfl,b2⟩:=h2.i64_inv;obtain⟨n3,rfl,b3,c3⟩:=h3.trms_inv;exact⟨⟨n0,.mk n1 n2 n3⟩,rfl,⟨b0,.mk _ _ _ b1 b2 b3 c3⟩⟩
theorem an1 {d:D}(h:DTy (.slice SY) d):∃l:List Rule,d=rules l∧l.length≤maxLen∧∀y,y∈l→Rule.OK y:=by
 obtain⟨xs,rfl,hm,hx⟩:=h.slice_inv;obtain⟨l,rfl,hl⟩:=jD (enc:=rG) (P:=Rule.OK) fun x hh=>an0 (hx x hh);exact⟨l,rfl,by simpa using hm,hl⟩
structure Order where
 name:ByteArray
 accepts:Bool
 choices:List Choice
 rules:List Rule
 deriving Inhabited
def jo (x:Order):D:=.agg [str x.name,.bool x.accepts,choices x.choices,rules x.rules]
@[simp] theorem as1 (x:Order):(jo x).cells=[str x.name,.bool x.accepts,choices x.choices,rules x.rules]:=_root_.id rfl
@[simp] theorem aw0 (x:Order):D.agg [str x.name,.bool x.accepts,choices x.choices,rules x.rules]=jo x:=_root_.id rfl
@[simp] theorem atZ (x:Order):jP 4 (jo x)=jo x:=_root_.id rfl
@[simp] theorem asX (x:Order):(jo x).c 0=str x.name:=_root_.id rfl
@[simp] theorem asY (x:Order):(jo x).c 1=.bool x.accepts:=_root_.id rfl
@[simp] theorem asZ (x:Order):(jo x).c 2=choices x.choices:=_root_.id rfl
@[simp] theorem as0 (x:Order):(jo x).c 3=rules x.rules:=_root_.id rfl
def orders (l:List Order):D:=.list (l.map jo)
@[simp] theorem axk (l:List Order):(orders l).l=l.map jo:=_root_.id rfl
abbrev SW:Ty:=.agg [.str,.bool,.slice SO,.slice SY]
def Order.OK (x:Order):Prop:=(x.choices.length≤maxLen∧∀y,y∈x.choices→Choice.OK y)∧(x.rules.length≤maxLen∧∀y,y∈x.rules→Rule.OK y)
theorem amr {d:D}(h:DTy SW d):∃x:Order,d=jo x∧x.OK:=by
 obtain⟨ds,rfl,hs⟩:=h.agg_inv;obtain⟨d0,ds,rfl,h0,hs⟩:=hs.cons_inv;obtain⟨d1,ds,rfl,h1,hs⟩:=hs.cons_inv;obtain⟨d2,ds,rfl,h2,hs⟩:=hs.cons_inv;obtain⟨d3,ds,rfl,h3,hs⟩:=hs.cons_inv;obtain rfl:=hs.nil_inv;obtain⟨n0,rfl⟩:=str_inv h0;obtain⟨n1,rfl⟩:=h1.bool_inv;obtain⟨n2,rfl,b2,c2⟩:=adu h2;obtain⟨n3,rfl,b3,c3⟩:=an1 h3;exact⟨⟨n0,n1,n2,n3⟩,rfl,⟨⟨b2,c2⟩,⟨b3,c3⟩⟩⟩
theorem ams {d:D}(h:DTy (.slice SW) d):∃l:List Order,d=orders l∧l.length≤maxLen∧∀y,y∈l→Order.OK y:=by
 obtain⟨xs,rfl,hm,hx⟩:=h.slice_inv;obtain⟨l,rfl,hl⟩:=jD (enc:=jo) (P:=Order.OK) fun x hh=>amr (hx x hh);exact⟨l,rfl,by simpa using hm,hl⟩
structure Realm where
 currencies:List ByteArray
 cities:List City
 groups:List Group
 firms:List Firm
 orders:List Order
 usances:List Usance
 rates:List Rate
 halts:List Halt
 deriving Inhabited
def ba (x:Realm):D:=.agg [strs x.currencies,vn x.cities,groups x.groups,firms x.firms,orders x.orders,usances x.usances,rates x.rates,halts x.halts]
@[simp] theorem atg (x:Realm):(ba x).cells=[strs x.currencies,vn x.cities,groups x.groups,firms x.firms,orders x.orders,usances x.usances,rates x.rates,halts x.halts]:=_root_.id rfl
@[simp] theorem aw2 (x:Realm):D.agg [strs x.currencies,vn x.cities,groups x.groups,firms x.firms,orders x.orders,usances x.usances,rates x.rates,halts x.halts]=ba x:=_root_.id rfl
@[simp] theorem at0 (x:Realm):jP 8 (ba x)=ba x:=_root_.id rfl
@[simp] theorem axo (x:Realm)(a0 a1 a2 a3 a4 a5 a6 a7:D):D.agg (cl [a0,a1,a2,a3,a4,a5,a6,a7] 0 [strs x.currencies,vn x.cities,groups x.groups,firms x.firms,orders x.orders,usances x.usances,rates x.rates,halts x.halts])=ba x:=_root_.id rfl
@[simp] theorem as8 (x:Realm):(ba x).c 0=strs x.currencies:=_root_.id rfl
@[simp] theorem as9 (x:Realm):(ba x).c 1=vn x.cities:=_root_.id rfl
@[simp] theorem ata (x:Realm):(ba x).c 2=groups x.groups:=_root_.id rfl
@[simp] theorem atb (x:Realm):(ba x).c 3=firms x.firms:=_root_.id rfl
@[simp] theorem atc (x:Realm):(ba x).c 4=orders x.orders:=_root_.id rfl
@[simp] theorem atd (x:Realm):(ba x).c 5=usances x.usances:=_root_.id rfl
@[simp] theorem ate (x:Realm):(ba x).c 6=rates x.rates:=_root_.id rfl
@[simp] theorem atf (x:Realm):(ba x).c 7=halts x.halts:=_root_.id rfl
abbrev aqN:Ty:=.agg [.slice .str,.slice SP,.slice SS,.slice SR,.slice SW,.slice S4,.slice SX,.slice SU]
def Realm.OK (x:Realm):Prop:=x.currencies.length≤maxLen∧(x.cities.length≤maxLen∧∀y,y∈x.cities→City.OK y)∧(x.groups.length≤maxLen∧∀y,y∈x.groups→Group.OK y)∧(x.firms.length≤maxLen∧∀y,y∈x.firms→Firm.OK y)∧(x.orders.length≤maxLen∧∀y,y∈x.orders→Order.OK y)∧(x.usances.length≤maxLen∧∀y,y∈x.usances→Usance.OK y)∧(x.rates.length≤maxLen∧∀y,y∈x.rates→Rate.OK y)∧(x.halts.length≤maxLen∧∀y,y∈x.halts→Halt.OK y)
theorem aaH {d:D}(h:DTy aqN d):∃x:Realm,d=ba x∧x.OK:=by
 obtain⟨ds,rfl,hs⟩:=h.agg_inv;obtain⟨d0,ds,rfl,h0,hs⟩:=hs.cons_inv;obtain⟨d1,ds,rfl,h1,hs⟩:=hs.cons_inv;obtain⟨d2,ds,rfl,h2,hs⟩:=hs.cons_inv;obtain⟨d3,ds,rfl,h3,hs⟩:=hs.cons_inv;obtain⟨d4,ds,rfl,h4,hs⟩:=hs.cons_inv;obtain⟨d5,ds,rfl,h5,hs⟩:=hs.cons_inv;obtain⟨d6,ds,rfl,h6,hs⟩:=hs.cons_inv;obtain⟨d7,ds,rfl,h7,hs⟩:=hs.cons_inv;obtain rfl:=hs.nil_inv;obtain⟨n0,rfl,b0⟩:=aos h0;obtain⟨n1,rfl,b1,c1⟩:=adx h1;obtain⟨n2,rfl,b2,c2⟩:=agq h2;obtain⟨n3,rfl,b3,c3⟩:=ae6 h3;obtain⟨n4,rfl,b4,c4⟩:=ams h4;obtain⟨n5,rfl,b5,c5⟩:=aqV h5;obtain⟨n6,rfl,b6,c6⟩:=anu h6;obtain⟨n7,rfl,b7,c7⟩:=agW h7;exact⟨⟨n0,n1,n2,n3,n4,n5,n6,n7⟩,rfl,⟨b0,⟨b1,c1⟩,⟨b2,c2⟩,⟨b3,c3⟩,⟨b4,c4⟩,⟨b5,c5⟩,⟨b6,c6⟩,⟨b7,c7⟩⟩⟩
structure Tenor where
 kind:Int
 n:Int
 unit:Int
 deriving DecidableEq,Inhabited
def BK (x:Tenor):D:=.agg [.int x.kind,.int x.n,.int x.unit]
@[simp] theorem atH (x:Tenor):(BK x).cells=[.int x.kind,.int x.n,.int x.unit]:=_root_.id rfl
@[simp] theorem aw7 (x:Tenor):D.agg [.int x.kind,.int x.n,.int x.unit]=BK x:=_root_.id rfl
@[simp] theorem atD (x:Tenor):(BK x).c 0=.int x.kind:=_root_.id rfl
@[simp] theorem atE (x:Tenor):(BK x).c 1=.int x.n:=_root_.id rfl
@[simp] theorem atG (x:Tenor):(BK x).c 2=.int x.unit:=_root_.id rfl
def Tenor.OK (x:Tenor):Prop:=aN x.kind∧aN x.n∧aN x.unit
structure Bill where
 drawer:Int
 drawee:Int
 payee:Int
 sum:Int
 currency:Int
 tenor:Tenor
 day:Int
 city:Int
 pay:Int
 need:Int
 rate:Int
 flags:Int
 parts:Int
 deriving DecidableEq,Inhabited
def fK (x:Bill):D:=.agg [.int x.drawer,.int x.drawee,.int x.payee,.int x.sum,.int x.currency,.int x.tenor.kind,.int x.tenor.n,.int x.tenor.unit,.int x.day,.int x.city,.int x.pay,.int x.need,.int x.rate,.int x.flags,.int x.parts]
@[simp] theorem arO (x:Bill):(fK x).cells=[.int x.drawer,.int x.drawee,.int x.payee,.int x.sum,.int x.currency,.int x.tenor.kind,.int x.tenor.n,.int x.tenor.unit,.int x.day,.int x.city,.int x.pay,.int x.need,.int x.rate,.int x.flags,.int x.parts]:=_root_.id rfl
@[simp] theorem awN (x:Bill):D.agg [.int x.drawer,.int x.drawee,.int x.payee,.int x.sum,.int x.currency,.int x.tenor.kind,.int x.tenor.n,.int x.tenor.unit,.int x.day,.int x.city,.int x.pay,.int x.need,.int x.rate,.int x.flags,.int x.parts]=fK x:=_root_.id rfl
@[simp] theorem atV (x:Bill):jP 15 (fK x)=fK x:=_root_.id rfl
@[simp] theorem axl (x:Bill)(a0 a1 a2 a3 a4 a5 a6 a7 a8 a9 rj rk rl rn rp:D):D.agg (cl [a0,a1,a2,a3,a4,a5,a6,a7,a8,a9,rj,rk,rl,rn,rp] 0 [.int x.drawer,.int x.drawee,.int x.payee,.int x.sum,.int x.currency,.int x.tenor.kind,.int x.tenor.n,.int x.tenor.unit,.int x.day,.int x.city,.int x.pay,.int x.need,.int x.rate,.int x.flags,.int x.parts])=fK x:=_root_.id rfl
@[simp] theorem ary (x:Bill):(fK x).c 0=.int x.drawer:=_root_.id rfl
@[simp] theorem arz (x:Bill):(fK x).c 1=.int x.drawee:=_root_.id rfl
@[simp] theorem arF (x:Bill):(fK x).c 2=.int x.payee:=_root_.id rfl
@[simp] theorem arG (x:Bill):(fK x).c 3=.int x.sum:=_root_.id rfl
@[simp] theorem arH (x:Bill):(fK x).c 4=.int x.currency:=_root_.id rfl
@[simp] theorem arJ (x:Bill):(fK x).c 5=.int x.tenor.kind:=_root_.id rfl
@[simp] theorem arK (x:Bill):(fK x).c 6=.int x.tenor.n:=_root_.id rfl
@[simp] theorem arL (x:Bill):(fK x).c 7=.int x.tenor.unit:=_root_.id rfl
@[simp] theorem arM (x:Bill):(fK x).c 8=.int x.day:=_root_.id rfl
@[simp] theorem arN (x:Bill):(fK x).c 9=.int x.city:=_root_.id rfl
@[simp] theorem arA (x:Bill):(fK x).c 10=.int x.pay:=_root_.id rfl
@[simp] theorem arB (x:Bill):(fK x).c 11=.int x.need:=_root_.id rfl
@[simp] theorem arC (x:Bill):(fK x).c 12=.int x.rate:=_root_.id rfl
@[simp] theorem arD (x:Bill):(fK x).c 13=.int x.flags:=_root_.id rfl
@[simp] theorem arE (x:Bill):(fK x).c 14=.int x.parts:=_root_.id rfl
def Bill.OK (x:Bill):Prop:=aN x.drawer∧aN x.drawee∧aN x.payee∧aN x.sum∧aN x.currency∧Tenor.OK x.tenor∧aN x.day∧aN x.city∧aN x.pay∧aN x.need∧aN x.rate∧aN x.flags∧aN x.parts
structure Sign where
 kind:Int
 part:Int
 who:Int
 for_:Int
 to:Int
 sum:Int
 day:Int
 city:Int
 flags:Int
 deriving DecidableEq,Inhabited
def eQ (x:Sign):D:=.agg [.int x.kind,.int x.part,.int x.who,.int x.for_,.int x.to,.int x.sum,.int x.day,.int x.city,.int x.flags]
@[simp] theorem atw (x:Sign):(eQ x).cells=[.int x.kind,.int x.part,.int x.who,.int x.for_,.int x.to,.int x.sum,.int x.day,.int x.city,.int x.flags]:=_root_.id rfl
@[simp] theorem aw6 (x:Sign):D.agg [.int x.kind,.int x.part,.int x.who,.int x.for_,.int x.to,.int x.sum,.int x.day,.int x.city,.int x.flags]=eQ x:=_root_.id rfl
@[simp] theorem at2 (x:Sign):jP 9 (eQ x)=eQ x:=_root_.id rfl
@[simp] theorem atn (x:Sign):(eQ x).c 0=.int x.kind:=_root_.id rfl
@[simp] theorem ato (x:Sign):(eQ x).c 1=.int x.part:=_root_.id rfl
@[simp] theorem atp (x:Sign):(eQ x).c 2=.int x.who:=_root_.id rfl
@[simp] theorem atq (x:Sign):(eQ x).c 3=.int x.for_:=_root_.id rfl
@[simp] theorem atr (x:Sign):(eQ x).c 4=.int x.to:=_root_.id rfl
@[simp] theorem ats (x:Sign):(eQ x).c 5=.int x.sum:=_root_.id rfl
@[simp] theorem att (x:Sign):(eQ x).c 6=.int x.day:=_root_.id rfl
@[simp] theorem atu (x:Sign):(eQ x).c 7=.int x.city:=_root_.id rfl
@[simp] theorem atv (x:Sign):(eQ x).c 8=.int x.flags:=_root_.id rfl
def signs (l:List Sign):D:=.list (l.map eQ)
@[simp] theorem axS (l:List Sign):(signs l).l=l.map eQ:=_root_.id rfl
@[simp] theorem axR (l:List Sign):(signs l).cells=[signs l]:=_root_.id rfl
abbrev SZ:Ty:=.agg [.int .i64,.int .i64,.int .i64,.int .i64,.int .i64,.int .i64,.int .i64,.int .i64,.int .i64]
def Sign.OK (x:Sign):Prop:=aN x.kind∧aN x.part∧aN x.who∧aN x.for_∧aN x.to∧aN x.sum∧aN x.day∧aN x.city∧aN x.flags
theorem aof {d:D}(h:DTy SZ d):∃x:Sign,d=eQ x∧x.OK:=by
 obtain⟨ds,rfl,hs⟩:=h.agg_inv;obtain⟨d0,ds,rfl,h0,hs⟩:=hs.cons_inv;obtain⟨d1,ds,rfl,h1,hs⟩:=hs.cons_inv;obtain⟨d2,ds,rfl,h2,hs⟩:=hs.cons_inv;obtain⟨d3,ds,rfl,h3,hs⟩:=hs.cons_inv;obtain⟨d4,ds,rfl,h4,hs⟩:=hs.cons_inv;obtain⟨d5,ds,rfl,h5,hs⟩:=hs.cons_inv;obtain⟨d6,ds,rfl,h6,hs⟩:=hs.cons_inv;obtain⟨d7,ds,rfl,h7,hs⟩:=hs.cons_inv;obtain⟨d8,ds,rfl,h8,hs⟩:=hs.cons_inv;obtain rfl:=hs.nil_inv;obtain⟨n0,rfl,b0⟩:=h0.i64_inv;obtain⟨n1,rfl,b1⟩:=h1.i64_inv;obtain⟨n2,rfl,b2⟩:=h2.i64_inv;obtain⟨n3,rfl,b3⟩:=h3.i64_inv;obtain⟨n4,rfl,b4⟩:=h4.i64_inv;obtain⟨n5,rfl,b5⟩:=h5.i64_inv;obtain⟨n6,rfl,b6⟩:=h6.i64_inv;obtain⟨n7,rfl,b7⟩:=h7.i64_inv;obtain⟨n8,rfl,b8⟩:=h8.i64_inv;exact⟨⟨n0,n1,n2,n3,n4,n5,n6,n7,n8⟩,rfl,⟨b0,b1,b2,b3,b4,b5,b6,b7,b8⟩⟩
theorem aog {d:D}(h:DTy (.slice SZ) d):∃l:List Sign,d=signs l∧l.length≤maxLen∧∀y,y∈l→Sign.OK y:=by
 obtain⟨xs,rfl,hm,hx⟩:=h.slice_inv;obtain⟨l,rfl,hl⟩:=jD (enc:=eQ) (P:=Sign.OK) fun x hh=>aof (hx x hh);exact⟨l,rfl,by simpa using hm,hl⟩
structure Alter where
 at_:Int
 sum:Int
 deriving DecidableEq,Inhabited
def oI (x:Alter):D:=.agg [.int x.at_,.int x.sum]
@[simp] theorem arx (x:Alter):(oI x).cells=[.int x.at_,.int x.sum]:=_root_.id rfl
@[simp] theorem awM (x:Alter):D.agg [.int x.at_,.int x.sum]=oI x:=_root_.id rfl
@[simp] theorem arv (x:Alter):(oI x).c 0=.int x.at_:=_root_.id rfl
@[simp] theorem arw (x:Alter):(oI x).c 1=.int x.sum:=_root_.id rfl
def alters (l:List Alter):D:=.list (l.map oI)
@[simp] theorem at5 (l:List Alter):(alters l).l=l.map oI:=_root_.id rfl
@[simp] theorem at4 (l:List Alter):(alters l).cells=[alters l]:=_root_.id rfl
abbrev SN:Ty:=.agg [.int .i64,.int .i64]
def Alter.OK (x:Alter):Prop:=aN x.at_∧aN x.sum
theorem acz {d:D}(h:DTy SN d):∃x:Alter,d=oI x∧x.OK:=by
 obtain⟨ds,rfl,hs⟩:=h.agg_inv;obtain⟨d0,ds,rfl,h0,hs⟩:=hs.cons_inv;obtain⟨d1,ds,rfl,h1,hs⟩:=hs.cons_inv;obtain rfl:=hs.nil_inv;obtain⟨n0,rfl,b0⟩:=h0.i64_inv;obtain⟨n1,rfl,b1⟩:=h1.i64_inv;exact⟨⟨n0,n1⟩,rfl,⟨b0,b1⟩⟩
theorem acA {d:D}(h:DTy (.slice SN) d):∃l:List Alter,d=alters l∧l.length≤maxLen∧∀y,y∈l→Alter.OK y:=by
 obtain⟨xs,rfl,hm,hx⟩:=h.slice_inv;obtain⟨l,rfl,hl⟩:=jD (enc:=oI) (P:=Alter.OK) fun x hh=>acz (hx x hh);exact⟨l,rfl,by simpa using hm,hl⟩
structure Act where
 kind:Int
 who:Int
 to:Int
 part:Int
 at_:Int
 sum:Int
 day:Int
 city:Int
 form:Int
 deriving DecidableEq,Inhabited
def gN (x:Act):D:=.agg [.int x.kind,.int x.who,.int x.to,.int x.part,.int x.at_,.int x.sum,.int x.day,.int x.city,.int x.form]
@[simp] theorem aru (x:Act):(gN x).cells=[.int x.kind,.int x.who,.int x.to,.int x.part,.int x.at_,.int x.sum,.int x.day,.int x.city,.int x.form]:=_root_.id rfl
@[simp] theorem awL (x:Act):D.agg [.int x.kind,.int x.who,.int x.to,.int x.part,.int x.at_,.int x.sum,.int x.day,.int x.city,.int x.form]=gN x:=_root_.id rfl
@[simp] theorem atU (x:Act):jP 9 (gN x)=gN x:=_root_.id rfl
@[simp] theorem arj (x:Act):(gN x).c 0=.int x.kind:=_root_.id rfl
@[simp] theorem ark (x:Act):(gN x).c 1=.int x.who:=_root_.id rfl
@[simp] theorem arl (x:Act):(gN x).c 2=.int x.to:=_root_.id rfl
@[simp] theorem arn (x:Act):(gN x).c 3=.int x.part:=_root_.id rfl
@[simp] theorem aro (x:Act):(gN x).c 4=.int x.at_:=_root_.id rfl
@[simp] theorem arp (x:Act):(gN x).c 5=.int x.sum:=_root_.id rfl
@[simp] theorem arq (x:Act):(gN x).c 6=.int x.day:=_root_.id rfl
@[simp] theorem ars (x:Act):(gN x).c 7=.int x.city:=_root_.id rfl
@[simp] theorem art (x:Act):(gN x).c 8=.int x.form:=_root_.id rfl
def acts (l:List Act):D:=.list (l.map gN)
@[simp] theorem atN (l:List Act):(acts l).l=l.map gN:=_root_.id rfl
@[simp] theorem atM (l:List Act):(acts l).cells=[acts l]:=_root_.id rfl
abbrev SM:Ty:=.agg [.int .i64,.int .i64,.int .i64,.int .i64,.int .i64,.int .i64,.int .i64,.int .i64,.int .i64]
def Act.OK (x:Act):Prop:=aN x.kind∧aN x.who∧aN x.to∧aN x.part∧aN x.at_∧aN x.sum∧aN x.day∧aN x.city∧aN x.form
theorem acq {d:D}(h:DTy SM d):∃x:Act,d=gN x∧x.OK:=by
 obtain⟨ds,rfl,hs⟩:=h.agg_inv;obtain⟨d0,ds,rfl,h0,hs⟩:=hs.cons_inv;obtain⟨d1,ds,rfl,h1,hs⟩:=hs.cons_inv;obtain⟨d2,ds,rfl,h2,hs⟩:=hs.cons_inv;obtain⟨d3,ds,rfl,h3,hs⟩:=hs.cons_inv;obtain⟨d4,ds,rfl,h4,hs⟩:=hs.cons_inv;obtain⟨d5,ds,rfl,h5,hs⟩:=hs.cons_inv;obtain⟨d6,ds,rfl,h6,hs⟩:=hs.cons_inv;obtain⟨d7,ds,rfl,h7,hs⟩:=hs.cons_inv;obtain⟨d8,ds,rfl,h8,hs⟩:=hs.cons_inv;obtain rfl:=hs.nil_inv;obtain⟨n0,rfl,b0⟩:=h0.i64_inv;obtain⟨n1,rfl,b1⟩:=h1.i64_inv;obtain⟨n2,rfl,b2⟩:=h2.i64_inv;obtain⟨n3,rfl,b3⟩:=h3.i64_inv;obtain⟨n4,rfl,b4⟩:=h4.i64_inv;obtain⟨n5,rfl,b5⟩:=h5.i64_inv;obtain⟨n6,rfl,b6⟩:=h6.i64_inv;obtain⟨n7,rfl,b7⟩:=h7.i64_inv;obtain⟨n8,rfl,b8⟩:=h8.i64_inv;exact⟨⟨n0,n1,n2,n3,n4,n5,n6,n7,n8⟩,rfl,⟨b0,b1,b2,b3,b4,b5,b6,b7,b8⟩⟩
theorem acr {d:D}(h:DTy (.slice SM) d):∃l:List Act,d=acts l∧l.length≤maxLen∧∀y,y∈l→Act.OK y:=by
 obtain⟨xs,rfl,hm,hx⟩:=h.slice_inv;obtain⟨l,rfl,hl⟩:=jD (enc:=gN) (P:=Act.OK) fun x hh=>acq (hx x hh);exact⟨l,rfl,by simpa using hm,hl⟩
structure Fact where
 kind:Int
 at_:Int
 n:Int
 deriving DecidableEq,Inhabited
def rD (x:Fact):D:=.agg [.int x.kind,.int x.at_,.int x.n]
@[simp] theorem asg (x:Fact):(rD x).cells=[.int x.kind,.int x.at_,.int x.n]:=_root_.id rfl
@[simp] theorem awT (x:Fact):D.agg [.int x.kind,.int x.at_,.int x.n]=rD x:=_root_.id rfl
@[simp] theorem asd (x:Fact):(rD x).c 0=.int x.kind:=_root_.id rfl
@[simp] theorem ase (x:Fact):(rD x).c 1=.int x.at_:=_root_.id rfl
@[simp] theorem asf (x:Fact):(rD x).c 2=.int x.n:=_root_.id rfl
def facts (l:List Fact):D:=.list (l.map rD)
@[simp] theorem avF (l:List Fact):(facts l).l=l.map rD:=_root_.id rfl
@[simp] theorem avE (l:List Fact):(facts l).cells=[facts l]:=_root_.id rfl
abbrev SQ:Ty:=.agg [.int .i64,.int .i64,.int .i64]
def Fact.OK (x:Fact):Prop:=aN x.kind∧aN x.at_∧aN x.n
theorem aeZ {d:D}(h:DTy SQ d):∃x:Fact,d=rD x∧x.OK:=by
 obtain⟨ds,rfl,hs⟩:=h.agg_inv;obtain⟨d0,ds,rfl,h0,hs⟩:=hs.cons_inv;obtain⟨d1,ds,rfl,h1,hs⟩:=hs.cons_inv;obtain⟨d2,ds,rfl,h2,hs⟩:=hs.cons_inv;obtain rfl:=hs.nil_inv;obtain⟨n0,rfl,b0⟩:=h0.i64_inv;obtain⟨n1,rfl,b1⟩:=h1.i64_inv;obtain⟨n2,rfl,b2⟩:=h2.i64_inv;exact⟨⟨n0,n1,n2⟩,rfl,⟨b0,b1,b2⟩⟩
theorem ae0 {d:D}(h:DTy (.slice SQ) d):∃l:List Fact,d=facts l∧l.length≤maxLen∧∀y,y∈l→Fact.OK y:=by
 obtain⟨xs,rfl,hm,hx⟩:=h.slice_inv;obtain⟨l,rfl,hl⟩:=jD (enc:=rD) (P:=Fact.OK) fun x hh=>aeZ (hx x hh);exact⟨l,rfl,by simpa using hm,hl⟩
structure File where
 bill:Bill
 signs:List Sign
 alters:List Alter
 acts:List Act
 facts:List Fact
 deriving Inhabited
def aY (x:File):D:=.agg [.int x.bill.drawer,.int x.bill.drawee,.int x.bill.payee,.int x.bill.sum,.int x.bill.currency,.int x.bill.tenor.kind,.int x.bill.tenor.n,.int x.bill.tenor.unit,.int x.bill.day,.int x.bill.city,.int x.bill.pay,.int x.bill.need,.int x.bill.rate,.int x.bill.flags,.int x.bill.parts,signs x.signs,alters x.alters,acts x.acts,facts x.facts]
@[simp] theorem asC (x:File):(aY x).cells=[.int x.bill.drawer,.int x.bill.drawee,.int x.bill.payee,.int x.bill.sum,.int x.bill.currency,.int x.bill.tenor.kind,.int x.bill.tenor.n,.int x.bill.tenor.unit,.int x.bill.day,.int x.bill.city,.int x.bill.pay,.int x.bill.need,.int x.bill.rate,.int x.bill.flags,.int x.bill.parts,signs x.signs,alters x.alters,acts x.acts,facts x.facts]:=_root_.id rfl
@[simp] theorem awU (x:File):D.agg [.int x.bill.drawer,.int x.bill.drawee,.int x.bill.payee,.int x.bill.sum,.int x.bill.currency,.int x.bill.tenor.kind,.int x.bill.tenor.n,.int x.bill.tenor.unit,.int x.bill.day,.int x.bill.city,.int x.bill.pay,.int x.bill.need,.int x.bill.rate,.int x.bill.flags,.int x.bill.parts,signs x.signs,alters x.alters,acts x.acts,facts x.facts]=aY x:=_root_.id rfl
@[simp] theorem atX (x:File):jP 19 (aY x)=aY x:=_root_.id rfl
@[simp] theorem axm (x:File)(a0 a1 a2 a3 a4 a5 a6 a7 a8 a9 rj rk rl rn rp vc vd ve vf:D):D.agg (cl [a0,a1,a2,a3,a4,a5,a6,a7,a8,a9,rj,rk,rl,rn,rp,vc,vd,ve,vf] 0 [.int x.bill.drawer,.int x.bill.drawee,.int x.bill.payee,.int x.bill.sum,.int x.bill.currency,.int x.bill.tenor.kind,.int x.bill.tenor.n,.int x.bill.tenor.unit,.int x.bill.day,.int x.bill.city,.int x.bill.pay,.int x.bill.need,.int x.bill.rate,.int x.bill.flags,.int x.bill.parts,signs x.signs,alters x.alters,acts x.acts,facts x.facts])=aY x:=_root_.id rfl
@[simp] theorem ash (x:File):(aY x).c 0=.int x.bill.drawer:=_root_.id rfl
@[simp] theorem asi (x:File):(aY x).c 1=.int x.bill.drawee:=_root_.id rfl
@[simp] theorem asu (x:File):(aY x).c 2=.int x.bill.payee:=_root_.id rfl
@[simp] theorem asv (x:File):(aY x).c 3=.int x.bill.sum:=_root_.id rfl
@[simp] theorem asw (x:File):(aY x).c 4=.int x.bill.currency:=_root_.id rfl
@[simp] theorem asx (x:File):(aY x).c 5=.int x.bill.tenor.kind:=_root_.id rfl
@[simp] theorem asy (x:File):(aY x).c 6=.int x.bill.tenor.n:=_root_.id rfl
@[simp] theorem asz (x:File):(aY x).c 7=.int x.bill.tenor.unit:=_root_.id rfl
@[simp] theorem asA (x:File):(aY x).c 8=.int x.bill.day:=_root_.id rfl
@[simp] theorem asB (x:File):(aY x).c 9=.int x.bill.city:=_root_.id rfl
@[simp] theorem asj (x:File):(aY x).c 10=.int x.bill.pay:=_root_.id rfl
@[simp] theorem asl (x:File):(aY x).c 11=.int x.bill.need:=_root_.id rfl
@[simp] theorem asn (x:File):(aY x).c 12=.int x.bill.rate:=_root_.id rfl
@[simp] theorem aso (x:File):(aY x).c 13=.int x.bill.flags:=_root_.id rfl
@[simp] theorem asp (x:File):(aY x).c 14=.int x.bill.parts:=_root_.id rfl
@[simp] theorem asq (x:File):(aY x).c 15=signs x.signs:=_root_.id rfl
@[simp] theorem asr (x:File):(aY x).c 16=alters x.alters:=_root_.id rfl
@[simp] theorem ass (x:File):(aY x).c 17=acts x.acts:=_root_.id rfl
@[simp] theorem ast (x:File):(aY x).c 18=facts x.facts:=_root_.id rfl
abbrev aqL:Ty:=.agg [.int .i64,.int .i64,.int .i64,.int .i64,.int .i64,.int .i64,.int .i64,.int .i64,.int .i64,.int .i64,.int .i64,.int .i64,.int .i64,.int .i64,.int .i64,.slice SZ,.slice SN,.slice SM,.slice SQ]
def File.OK (x:File):Prop:=Bill.OK x.bill∧(x.signs.length≤maxLen∧∀y,y∈x.signs→Sign.OK y)∧(x.alters.length≤maxLen∧∀y,y∈x.alters→Alter.OK y)∧(x.acts.length≤maxLen∧∀y,y∈x.acts→Act.OK y)∧(x.facts.length≤maxLen∧∀y,y∈x.facts→Fact.OK y)
theorem UT {d:D}(h:DTy aqL d):∃x:File,d=aY x∧x.OK:=by
 obtain⟨ds,rfl,hs⟩:=h.agg_inv;obtain⟨d0,ds,rfl,h0,hs⟩:=hs.cons_inv;obtain⟨d1,ds,rfl,h1,hs⟩:=hs.cons_inv;obtain⟨d2,ds,rfl,h2,hs⟩:=hs.cons_inv;obtain⟨d3,ds,rfl,h3,hs⟩:=hs.cons_inv;obtain⟨d4,ds,rfl,h4,hs⟩:=hs.cons_inv;obtain⟨d5,ds,rfl,h5,hs⟩:=hs.cons_inv;obtain⟨d6,ds,rfl,h6,hs⟩:=hs.cons_inv;obtain⟨d7,ds,rfl,h7,hs⟩:=hs.cons_inv;obtain⟨d8,ds,rfl,h8,hs⟩:=hs.cons_inv;obtain⟨d9,ds,rfl,h9,hs⟩:=hs.cons_inv;obtain⟨d10,ds,rfl,nq,hs⟩:=hs.cons_inv;obtain⟨d11,ds,rfl,rN,hs⟩:=hs.cons_inv;obtain⟨d12,ds,rfl,LR,hs⟩:=hs.cons_inv;obtain⟨d13,ds,rfl,h13,hs⟩:=hs.cons_inv;obtain⟨d14,ds,rfl,h14,hs⟩:=hs.cons_inv;obtain⟨d15,ds,rfl,GP,hs⟩:=hs.cons_inv;obtain⟨d16,ds,rfl,GQ,hs⟩:=hs.cons_inv;obtain⟨d17,ds,rfl,GR,hs⟩:=hs.cons_inv;obtain⟨d18,ds,rfl,GS,hs⟩:=hs.cons_inv;obtain rfl:=hs.nil_inv;obtain⟨n0,rfl,b0⟩:=h0.i64_inv;obtain⟨n1,rfl,b1⟩:=h1.i64_inv;obtain⟨n2,rfl,b2⟩:=h2.i64_inv;obtain⟨n3,rfl,b3⟩:=h3.i64_inv;obtain⟨n4,rfl,b4⟩:=h4.i64_inv;obtain⟨n5,rfl,b5⟩:=h5.i64_inv;obtain⟨n6,rfl,b6⟩:=h6.i64_inv;obtain⟨n7,rfl,b7⟩:=h7.i64_inv;obtain⟨n8,rfl,b8⟩:=h8.i64_inv;obtain⟨n9,rfl,b9⟩:=h9.i64_inv;obtain⟨n10,rfl,b10⟩:=nq.i64_inv;obtain⟨n11,rfl,b11⟩:=rN.i64_inv;obtain⟨n12,rfl,b12⟩:=LR.i64_inv;obtain⟨n13,rfl,b13⟩:=h13.i64_inv;obtain⟨n14,rfl,b14⟩:=h14.i64_inv;obtain⟨n15,rfl,b15,c15⟩:=aog GP;obtain⟨n16,rfl,b16,c16⟩:=acA GQ;obtain⟨n17,rfl,b17,c17⟩:=acr GR;obtain⟨n18,rfl,b18,c18⟩:=ae0 GS;exact⟨⟨⟨n0,n1,n2,n3,n4,⟨n5,n6,n7⟩,n8,n9,n10,n11,n12,n13,n14⟩,n15,n16,n17,n18⟩,rfl,⟨⟨b0,b1,b2,b3,b4,⟨b5,b6,b7⟩,b8,b9,b10,b11,b12,b13,b14⟩,⟨b15,c15⟩,⟨b16,c16⟩,⟨b17,c17⟩,⟨b18,c18⟩⟩⟩
structure Case where
 file:File
 sign:Int
 holder:Int
 defence:Int
 due:Int
 day:Int
 deriving Inhabited
def fo (x:Case):D:=.agg [.int x.file.bill.drawer,.int x.file.bill.drawee,.int x.file.bill.payee,.int x.file.bill.sum,.int x.file.bill.currency,.int x.file.bill.tenor.kind,.int x.file.bill.tenor.n,.int x.file.bill.tenor.unit,.int x.file.bill.day,.int x.file.bill.city,.int x.file.bill.pay,.int x.file.bill.need,.int x.file.bill.rate,.int x.file.bill.flags,.int x.file.bill.parts,signs x.file.signs,alters x.file.alters,acts x.file.acts,facts x.file.facts,.int x.sign,.int x.holder,.int x.defence,.int x.due,.int x.day]
@[simp] theorem arX (x:Case):(fo x).cells=[.int x.file.bill.drawer,.int x.file.bill.drawee,.int x.file.bill.payee,.int x.file.bill.sum,.int x.file.bill.currency,.int x.file.bill.tenor.kind,.int x.file.bill.tenor.n,.int x.file.bill.tenor.unit,.int x.file.bill.day,.int x.file.bill.city,.int x.file.bill.pay,.int x.file.bill.need,.int x.file.bill.rate,.int x.file.bill.flags,.int x.file.bill.parts,signs x.file.signs,alters x.file.alters,acts x.file.acts,facts x.file.facts,.int x.sign,.int x.holder,.int x.defence,.int x.due,.int x.day]:=_root_.id rfl
@[simp] theorem awO (x:Case):D.agg [.int x.file.bill.drawer,.int x.file.bill.drawee,.int x.file.bill.payee,.int x.file.bill.sum,.int x.file.bill.currency,.int x.file.bill.tenor.kind,.int x.file.bill.tenor.n,.int x.file.bill.tenor.unit,.int x.file.bill.day,.int x.file.bill.city,.int x.file.bill.pay,.int x.file.bill.need,.int x.file.bill.rate,.int x.file.bill.flags,.int x.file.bill.parts,signs x.file.signs,alters x.file.alters,acts x.file.acts,facts x.file.facts,.int x.sign,.int x.holder,.int x.defence,.int x.due,.int x.day]=fo x:=_root_.id rfl
@[simp] theorem acy (x:Case):jP 24 (fo x)=fo x:=_root_.id rfl
@[simp] theorem amt (x:Case)(a0 a1 a2 a3 a4 a5 a6 a7 a8 a9 rj rk rl rn rp vc vd ve vf a19 a20 a21 a22 a23:D):D.agg (cl [a0,a1,a2,a3,a4,a5,a6,a7,a8,a9,rj,rk,rl,rn,rp,vc,vd,ve,vf,a19,a20,a21,a22,a23] 0 [.int x.file.bill.drawer,.int x.file.bill.drawee,.int x.file.bill.payee,.int x.file.bill.sum,.int x.file.bill.currency,.int x.file.bill.tenor.kind,.int x.file.bill.tenor.n,.int x.file.bill.tenor.unit,.int x.file.bill.day,.int x.file.bill.city,.int x.file.bill.pay,.int x.file.bill.need,.int x.file.bill.rate,.int x.file.bill.flags,.int x.file.bill.parts,signs x.file.signs,alters x.file.alters,acts x.file.acts,facts x.file.facts,.int x.sign,.int x.holder,.int x.defence,.int x.due,.int x.day])=fo x:=_root_.id rfl
@[simp] theorem arW (x:Case):(fo x).c 9=.int x.file.bill.city:=_root_.id rfl
@[simp] theorem arP (x:Case):(fo x).c 10=.int x.file.bill.pay:=_root_.id rfl
@[simp] theorem arQ (x:Case):(fo x).c 15=signs x.file.signs:=_root_.id rfl
@[simp] theorem arR (x:Case):(fo x).c 19=.int x.sign:=_root_.id rfl
@[simp] theorem arS (x:Case):(fo x).c 20=.int x.holder:=_root_.id rfl
@[simp] theorem arT (x:Case):(fo x).c 21=.int x.defence:=_root_.id rfl
@[simp] theorem arU (x:Case):(fo x).c 22=.int x.due:=_root_.id rfl
@[simp] theorem arV (x:Case):(fo x).c 23=.int x.day:=_root_.id rfl
def cases(l:List Case):D:=.list (l.map fo)
structure Cell where
 known:Bool
 n:Int
 deriving DecidableEq,Inhabited
def cR (x:Cell):D:=.agg [.bool x.known,.int x.n]
@[simp] theorem ar0 (x:Cell):(cR x).cells=[.bool x.known,.int x.n]:=_root_.id rfl
@[simp] theorem awP (x:Cell):D.agg [.bool x.known,.int x.n]=cR x:=_root_.id rfl
@[simp] theorem arY (x:Cell):(cR x).c 0=.bool x.known:=_root_.id rfl
@[simp] theorem arZ (x:Cell):(cR x).c 1=.int x.n:=_root_.id rfl
def cells (l:List Cell):D:=.list (l.map cR)
@[simp] theorem aun (l:List Cell):(cells l).l=l.map cR:=_root_.id rfl
@[simp] theorem aum (l:List Cell):(cells l).cells=[cells l]:=_root_.id rfl
structure Said where
 cell:Cell
 order:Int
 path:List Int
 err:Int
 deriving Inhabited
def rH (x:Said):D:=.agg [.bool x.cell.known,.int x.cell.n,.int x.order,ints x.path,.int x.err]
@[simp] theorem atj (x:Said):(rH x).cells=[.bool x.cell.known,.int x.cell.n,.int x.order,ints x.path,.int x.err]:=_root_.id rfl
@[simp] theorem aw4 (x:Said):D.agg [.bool x.cell.known,.int x.cell.n,.int x.order,ints x.path,.int x.err]=rH x:=_root_.id rfl
@[simp] theorem at1 (x:Said):jP 5 (rH x)=rH x:=_root_.id rfl
@[simp] theorem ax0 (a0 x0:D):cl [a0] 0 [x0]=[x0]:=_root_.id rfl
@[simp] theorem ax1 (a0 a1 x0 x1:D):cl [a0,a1] 0 [x0,x1]=[x0,x1]:=_root_.id rfl
@[simp] theorem ax2 (a0 a1 a2 x0 x1 x2:D):cl [a0,a1,a2] 0 [x0,x1,x2]=[x0,x1,x2]:=_root_.id rfl
@[simp] theorem ax3 (a0 a1 a2 a3 x0 x1 x2 x3:D):cl [a0,a1,a2,a3] 0 [x0,x1,x2,x3]=[x0,x1,x2,x3]:=_root_.id rfl
@[simp] theorem ax4 (a0 a1 a2 a3 a4 x0 x1 x2 x3 x4:D):cl [a0,a1,a2,a3,a4] 0 [x0,x1,x2,x3,x4]=[x0,x1,x2,x3,x4]:=_root_.id rfl
@[simp] theorem ax5 (a0 a1 a2 a3 a4 a5 x0 x1 x2 x3 x4 x5:D):cl [a0,a1,a2,a3,a4,a5] 0 [x0,x1,x2,x3,x4,x5]=[x0,x1,x2,x3,x4,x5]:=_root_.id rfl
@[simp] theorem ax6 (a0 a1 a2 a3 a4 a5 a6 a7 a8 x0 x1 x2 x3 x4 x5 x6 x7 x8:D):cl [a0,a1,a2,a3,a4,a5,a6,a7,a8] 0 [x0,x1,x2,x3,x4,x5,x6,x7,x8]=[x0,x1,x2,x3,x4,x5,x6,x7,x8]:=_root_.id rfl
end Rm
set_option maxRecDepth 100000
namespace Rm
open Go Go.Proofs Cx
abbrev I:Ty:=.int .i64
abbrev Y0:Ty:=.agg [.str,I,I,(.slice I),(.slice I),(.slice I)]
abbrev Y1:Ty:=.agg [I]
abbrev Y2:Ty:=.agg [.str,I,I]
abbrev Y3:Ty:=.agg [I,I,.bool]
abbrev Y4:Ty:=.agg [I,I,I,(.slice .trm)]
abbrev Y5:Ty:=.agg [.str,.bool,(.slice Y3),(.slice Y4)]
abbrev Y6:Ty:=.agg [I,I,I]
abbrev Y7:Ty:=.agg [I,I,I,I,I]
abbrev Y8:Ty:=.agg [(.slice .str),(.slice Y0),(.slice Y1),(.slice Y2),(.slice Y5),(.slice Y6),(.slice Y7),(.slice Y6)]
abbrev Y9:Ty:=.agg [I,I,I,I,I,I,I,I,I]
abbrev rh:Ty:=.agg [I,I]
abbrev df:Ty:=.agg [I,I,I,I,I,I,I,I,I,I,I,I,I,I,I,(.slice Y9),(.slice rh),(.slice Y9),(.slice Y6)]
abbrev jk:Ty:=.agg [I,I,I,I,I,(.slice Y3)]
abbrev Y13:Ty:=.agg [(.slice I),I,I,.bool,I,(.slice I)]
abbrev E3:Ty:=.agg [.bool,I,I,(.slice I),I]
abbrev pU:Ty:=.agg [I,I,I,I,I,I,I,I,I,I,I,I,I,I,I,(.slice Y9),(.slice rh),(.slice Y9),(.slice Y6),I,I,I,I,I]
abbrev TL:Ty:=.agg [I,I,I,I,I,I,I,I,I,I,I,I,I,I,I]
abbrev ri:Ty:=.agg [I,I,(.slice .trm)]
abbrev kN:Ty:=.agg [.bool,I]
abbrev TM:Ty:=.agg [(.slice kN)]
abbrev Y20:Ty:=.agg [(.slice I),I]
def pI:List (Nat×Sig):=[
 (4,⟨[Y8,I,df,jk,I,(.int .u16)],.bool,.dat⟩),
 (5,⟨[Y8,I,df,jk,I,I,(.int .u16)],.bool,.dat⟩),
 (7,⟨[],.bool,.dat⟩),
 (8,⟨[Y8,df,jk],.bool,.dat⟩),
 (9,⟨[Y8,I,df,jk,I],(.tup [df,I]),.dat⟩),
 (12,⟨[df,I,I],Y13,.dat⟩),
 (13,⟨[df,I],df,(.rows [.dat I,.dat I,.dat I,.dat I,.dat I,.dat I,.dat I,.dat I,.dat I,.dat I,.dat I,.dat I,.dat I,.dat I,.dat I,.row 71 Y9,.row 87 rh,.row 78 Y9,.row 97 Y6])⟩),
 (14,⟨[df,I,I],.bool,.dat⟩),
 (16,⟨[Y8,I,df,jk,I],I,.dat⟩),
 (17,⟨[Y8,df,jk],I,.dat⟩),
 (20,⟨[],(.tup [Y8,df,jk]),.dat⟩),
 (21,⟨[Y8,df],.bool,.dat⟩),
 (22,⟨[Y8],I,.dat⟩),
 (23,⟨[(.slice I),I],.bool,.dat⟩),
 (26,⟨[I,I,I],.bool,.dat⟩),
 (29,⟨[df,I],(.tup [I,.bool]),.dat⟩),
 (30,⟨[df,I,I],(.fn [(.fn [I,Y9] .bool)] (.tup [])),.dat⟩),
 (31,⟨[I,I],I,.dat⟩),
 (32,⟨[I,I],.bool,.dat⟩),
 (33,⟨[df,I],(.map I .bool),.dat⟩),
 (34,⟨[E3],I,.dat⟩),
 (35,⟨[Y8,I,I,df,I],E3,.dat⟩),
 (36,⟨[Y8,df],I,.dat⟩),
 (37,⟨[Y3,(.ref Y8)],.bool,.dat⟩),
 (38,⟨[Y8,I],.bool,.dat⟩),
 (39,⟨[(.ref jk),(.ref df)],.bool,.dat⟩),
 (40,⟨[(.ref Y8),(.ref jk)],.bool,.dat⟩),
 (41,⟨[(.ref jk)],.bool,.dat⟩),
 (42,⟨[(.ref jk),(.ref (.fn [Y3] .bool))],.bool,.dat⟩),
 (43,⟨[(.slice Y3),(.fn [Y3] .bool)],.bool,.dat⟩),
 (44,⟨[(.ref df),(.ref jk)],.bool,.dat⟩),
 (45,⟨[df,jk],.bool,.dat⟩),
 (48,⟨[Y8],.bool,.dat⟩),
 (49,⟨[df],.bool,.dat⟩),
 (50,⟨[Y5],.bool,.dat⟩),
 (51,⟨[Y8],I,.dat⟩),
 (52,⟨[Y8],I,.dat⟩),
 (53,⟨[Y8],I,.dat⟩),
 (54,⟨[Y8],I,.dat⟩),
 (55,⟨[Y8],I,.dat⟩),
 (56,⟨[(.slice I),I],I,.dat⟩),
 (65,⟨[Y8,I,I,pU],E3,.dat⟩),
 (66,⟨[Y8,TL],I,.dat⟩),
 (67,⟨[Y8,df,I],I,.dat⟩),
 (68,⟨[I,I,I],.bool,.dat⟩),
 (69,⟨[Y8,df],I,.dat⟩),
 (70,⟨[df],I,.dat⟩),
 (71,⟨[(.slice Y3),(.fn [Y3] .bool)],I,.dat⟩),
 (77,⟨[ri],.bool,.dat⟩),
 (78,⟨[(.slice .str),I],I,.dat⟩),
 (79,⟨[Y8,Y0],.bool,.dat⟩),
 (80,⟨[Y5],.bool,.dat⟩),
 (83,⟨[Y8,I,I,pU],(.tup [E3,(.slice kN)]),.dat⟩),
 (84,⟨[Y5,I,(.slice kN)],(.tup [kN,I]),.dat⟩),
 (85,⟨[Y8],I,.dat⟩),
 (86,⟨[I,I],.bool,.dat⟩),
 (87,⟨[TL],.bool,.dat⟩),
 (88,⟨[Y8,I,I],(.tup [I,I]),.dat⟩),
 (89,⟨[Y8,df,I],.bool,.dat⟩),
 (90,⟨[Y8,df,Y9],.bool,.dat⟩),
 (91,⟨[(.slice I)],I,.dat⟩),
 (92,⟨[I,I],I,.dat⟩),
 (96,⟨[ri,I,I],I,.dat⟩),
 (97,⟨[.str],.bool,.dat⟩),
 (98,⟨[(.slice .str),I,.str],.bool,.dat⟩),
 (99,⟨[(.slice I),I,I],.bool,.dat⟩),
 (100,⟨[Y8,pU],(.tup [pU,(.slice kN)]),.dat⟩),
 (101,⟨[I],(.tup [I,.bool]),.dat⟩),
 (102,⟨[Y8,I,pU],(.nsl I),.dat⟩),
 (103,⟨[Y8,I,I,(.slice I)],(.tup [(.slice I),I]),.dat⟩),
 (104,⟨[Y5,I],(.tup [ri,I]),.dat⟩),
 (105,⟨[ri,(.slice kN)],kN,.dat⟩),
 (106,⟨[Y8],(.tup [(.slice .str),(.slice .str),(.slice .str)]),.dat⟩),
 (107,⟨[(.slice .str),I,(.fn [I] .bool)],I,.dat⟩),
 (108,⟨[I],.bool,.dat⟩),
 (109,⟨[I,(.ref Y8)],.bool,.dat⟩),
 (110,⟨[Y8,Y0],.bool,.dat⟩),
 (111,⟨[I,I],.bool,.dat⟩),
 (112,⟨[I,(.ref Y8)],.bool,.dat⟩),
 (113,⟨[I,(.ref Y8)],.bool,.dat⟩),
 (114,⟨[Y5],.bool,.dat⟩),
 (115,⟨[Y8],I,.dat⟩),
 (116,⟨[Y8],I,.dat⟩),
 (117,⟨[df,I,(.slice I)],.bool,.dat⟩),
 (118,⟨[df,I,I],.bool,.dat⟩),
 (119,⟨[I],.bool,.dat⟩),
 (126,⟨[(.int .u8)],.bool,.dat⟩),
 (127,⟨[Y8,pU],(.slice kN),.dat⟩),
 (128,⟨[Y8,I],I,.dat⟩),
 (129,⟨[Y8,I,I,(.slice I)],.bool,.dat⟩),
 (130,⟨[Y8,I,I,(.slice I)],(.tup [I,.bool]),.dat⟩),
 (131,⟨[(.slice Y4),(.fn [Y4] .bool)],I,.dat⟩),
 (132,⟨[Y4,(.ref I)],.bool,.dat⟩),
 (133,⟨[ri],(.tup [I,I]),.dat⟩),
 (134,⟨[TM,ri],(.tup [kN,(.slice I)]),.dat⟩),
 (135,⟨[(.slice .str),I],I,.dat⟩),
 (136,⟨[(.slice I),I,I],.bool,.dat⟩),
 (140,⟨[(.slice rh),(.fn [rh] .bool)],.bool,.dat⟩),
 (141,⟨[rh,(.ref pU)],.bool,.dat⟩),
 (142,⟨[.bool],kN,.dat⟩),
 (143,⟨[df,I,I],kN,.dat⟩),
 (144,⟨[(.slice I),(.fn [I] .bool)],.bool,.dat⟩),
 (145,⟨[I,(.ref I)],.bool,.dat⟩),
 (146,⟨[ri,I],I,.dat⟩),
 (147,⟨[ri],(.tup [I,I]),.dat⟩),
 (148,⟨[TM,I],kN,.dat⟩),
 (149,⟨[I,(.slice kN)],kN,.dat⟩),
 (150,⟨[(.slice (.slice I))],(.slice I),.dat⟩),
 (151,⟨[.str],.bool,.dat⟩),
 (152,⟨[(.slice .str),.str],.bool,.dat⟩),
 (156,⟨[(.slice rh),(.fn [rh] .bool)],I,.dat⟩),
 (157,⟨[(.slice I),(.fn [I] .bool)],I,.dat⟩),
 (158,⟨[ri],(.tup [I,I]),.dat⟩),
 (159,⟨[I],Y20,.dat⟩),
 (160,⟨[I],(.tup [I,.bool]),.dat⟩),
 (161,⟨[.bool],kN,.dat⟩),
 (162,⟨[I],I,.dat⟩),
 (163,⟨[I,I,I],I,.dat⟩),
 (164,⟨[.nils .bool,I],(.slice I),(.row 3 I)⟩),
 (165,⟨[(.slice .str),.str],I,.dat⟩),
 (171,⟨[I,I],I,.dat⟩),
 (173,⟨[(.int .u64),(.int .u64)],(.tup [(.int .u64),(.int .u64)]),.dat⟩)]
def K5:List (Nat×CSig):=[
 (37,⟨[(.ref Y8)],[Y3],.bool⟩),
 (39,⟨[(.ref jk),(.ref df)],[],.bool⟩),
 (40,⟨[(.ref Y8),(.ref jk)],[],.bool⟩),
 (41,⟨[(.ref jk)],[],.bool⟩),
 (42,⟨[(.ref jk),(.ref (.fn [Y3] .bool))],[],.bool⟩),
 (44,⟨[(.ref df),(.ref jk)],[],.bool⟩),
 (64,⟨[(.ref df),(.ref I),(.ref I)],[(.fn [I,Y9] .bool)],(.tup [])⟩),
 (108,⟨[],[I],.bool⟩),
 (109,⟨[(.ref Y8)],[I],.bool⟩),
 (112,⟨[(.ref Y8)],[I],.bool⟩),
 (113,⟨[(.ref Y8)],[I],.bool⟩),
 (132,⟨[(.ref I)],[Y4],.bool⟩),
 (141,⟨[(.ref pU)],[rh],.bool⟩),
 (145,⟨[(.ref I)],[I],.bool⟩)]
def ctx:Ctx:={P:=Tryz.prog,cap:=bz K5,sig:=bz pI,alr:=fun _=>none,glob:=QG 0 [6,7,10,12,13,14,15,16,20,21]}
abbrev Jv (i:Nat):Sig:=(bz pI i).getD default
def cF (a b:List Nat)(f:Func)(i:Nat)(l:List Nat):Option PC:=lL {ctx with fr:=a,nh:=b} f (Jv i) l
theorem bo {o:Option PC}{t:PT}{l:List (Shp×PT)}(h:o.map told=some (t,l)):tree (ae o)=t:=bO (F:=fun _=>(t,l)) h
theorem aE (o:Option PC){p:PT×List (Shp×PT)}(h:o.map told=some p):o=some (ae o):=aoK (F:=fun _=>p) h
theorem aG (l a b:List Nat){f:Nat}{fn:Func}{c:PC}(h0:ctx.P.funcs[f]?=some fn)(h1:ctx.sig f=some (Jv f))(h2:lL {ctx with fr:=a,nh:=b} fn (Jv f) l=some c):∃fn s ids fr nh,ctx.P.funcs[f]?=some fn∧ctx.sig f=some s∧lL {ctx with fr:=fr,nh:=nh} fn s ids=some c:=⟨fn,Jv f,l,a,b,h0,h1,h2⟩
abbrev kX:PE:=.setc (.setc (.setc (.con (.agg [(.int 0),(.int 0),(.int 0),(.int 0),(.int 0),(.int 0),(.int 0),(.int 0),(.int 0),(.int 0),(.int 0),(.int 0),(.int 0),(.int 0),(.int 0),(.list []),(.list []),(.list []),(.list [])])) 0 (.mk [(.mk [(pi 0),(pi 1),(pi 2),(pi 500),(pi 0),z3,(pi 2),(pi 0),(pi 0),(pi (-1)),(pi 0),(pi 0),(pi 1)]),pL,pL,pL,pL])) 15 pN) 15 pN
abbrev Du:PE:=.setc (.con (.agg [(.list []),(.list []),(.list []),(.list []),(.list []),(.list []),(.list []),(.list [])])) 0 (.mk [(.lst [(.con (.v (.string ⟨#[102,114,97,110,99]⟩)))]),(.lst [(.mk [(.con (.v (.string ⟨#[76,121,111,110]⟩))),(pi 0),(pi 0),pL,pL,pL])]),(.lst [(.mk [(pi 0)])]),(.lst [(.mk [(.con (.v (.string ⟨#[66,111,100,109,101,114]⟩))),(pi 0),(pi 0)]),(.mk [(.con (.v (.string ⟨#[72,111,112,101]⟩))),(pi 0),(pi 0)]),(.mk [(.con (.v (.string ⟨#[82,105,99,99,105]⟩))),(pi 0),(pi 0)])]),(.lst [(.mk [(pc (.setc (.con (.agg [(.v (.string ⟨#[]⟩)),(.bool false),(.list []),(.list [])])) 0 (.mk [(.con (.v (.string ⟨#[103,101,110,101,118,97]⟩))),pF,pL,(.lst [(.mk [(pi 20),(.mk [(pi 0),(pi 30),pL])])])])) 0),(pc (.setc (.con (.agg [(.v (.string ⟨#[]⟩)),(.bool false),(.list []),(.list [])])) 0 (.mk [(.con (.v (.string ⟨#[103,101,110,101,118,97]⟩))),pF,pL,(.lst [(.mk [(pi 20),(.mk [(pi 0),(pi 30),pL])])])])) 1),pL,(pc (.setc (.con (.agg [(.v (.string ⟨#[]⟩)),(.bool false),(.list []),(.list [])])) 0 (.mk [(.con (.v (.string ⟨#[103,101,110,101,118,97]⟩))),pF,pL,(.lst [(.mk [(pi 20),(.mk [(pi 0),(pi 30),pL])])])])) 3)])]),pL,pL,pL])
abbrev qC:PE:=.con (.agg [(.int 0),(.int 0),(.int 0),(.int 0),(.int 0),(.int 0),(.int 0),(.int 0),(.int 0),(.int 0),(.int 0),(.int 0),(.int 0),(.int 0),(.int 0),(.list []),(.list []),(.list []),(.list [])])
abbrev fU:PE:=.con (.agg [(.bool false),(.int 0)])
abbrev qD:PE:=.deref (.con (.ref (.agg [(.int 6),(.int 7),(.int 10),(.int 12),(.int 13),(.int 14),(.int 15),(.int 16),(.int 20),(.int 21)])))
abbrev kM:PE:=.setc z3 0 (.mk [(pc (.mk [r0]) 5),(pc (.mk [r0]) 6),(pc (.mk [r0]) 7)])
abbrev ld:PE:=.setc bT 0 (.mk [EP,pL,pL,pL,pL])
abbrev IN:PE:=.put (.put (.put (.put (.con (.map [])) (pi 7) (aU (.ai .and .i64 (pc o6 13) (pi 1)) (pi 0))) (pi 8) (aq (pc o6 2) (pi (-1)))) (pi 9) (aU (.ai .and .i64 (pc o6 13) (pi 4)) (pi 0))) (pi 10) (aU (.ai .and .i64 (pc o6 13) (pi 2)) (pi 0))
abbrev DA:PE:=.con (.agg [(.int 0),(.int 0),(.int 0),(.int 0),(.int 0),(.list [])])
abbrev mc:PE:=.con (.agg [(.int 0),(.int 0),(.list [])])
abbrev IG:PE:=.mk [(pc zB 0),(pc zB 1),(pc zB 2),(pc zB 3),(pc zB 4),(.o 24592)]
abbrev cq:PE:=pi 4294967296
abbrev sv:PE:=.con (.agg [(.int 0),(.int 0),(.bool false)])
abbrev kY:PE:=.con (.agg [(.list []),(.int 0)])
abbrev ZR:PE:=.pick (.pick (.pick (aq (pc (.setc z9 0 (pn bP cv)) 0) (pi 2)) (aq (pc (.setc z9 0 (pn bP cv)) 1) (.deref r3)) pF) (bF (pc (.setc z9 0 (pn bP cv)) 6) (.deref r2)) pF) (.nt (.look r5 cv pF)) pF
abbrev nO:PE:=.setc z9 0 (pn (pc (.mk [r1]) 15) r2)
abbrev kZ:PE:=.setc bT 0 (.setc ja 17 pN)
abbrev z8:PE:=.mk [(pc (.setc fU 0 fW) 0),(pc (.setc fU 0 fW) 1)]
abbrev ZS:PE:=.lst [(.mk [(.clo 39 [(.ref (aw 6 o5)),(.ref (aw 19 o4))]),(pi 15)]),(.mk [(.clo 40 [(.ref (aw 8 o3)),(.ref (aw 6 o5))]),(pi 1)]),(.mk [(.clo 41 [(.ref (aw 6 o5))]),(pi 6)]),(.mk [(.clo 42 [(.ref (aw 6 o5)),(.ref (pc (.setc (.con (.agg [(.v .nilFunc)])) 0 (.clo 37 [(.ref (aw 8 o3))])) 0))]),(pi 1)]),(.mk [(.clo 44 [(.ref (aw 19 o4)),(.ref (aw 6 o5))]),(pi 13)])]
abbrev Aa:PE:=.setc z9 0 (pn (pc (.mk [r2]) 15) (pc (.mk [r2]) 19))
abbrev jE:PE:=.setc (.mk [r3]) 18 pL
abbrev OZ:PE:=.put (.put (.put (.con (.map [])) (pi 0) (pc o6 3)) (pi 1) (pc o6 14)) (pi 2) (pc o6 5)
abbrev II:PE:=.pick (.pick (aq (.tget sE 0) (pi 0)) (pc bT 0) pF) (.setc bT 1 (.mn (.mx (pc bT 1) (pi 0)) (pi 20000))) bT
abbrev Dv:PE:=.mk [(pc (.setc o4 0 (.mk [pF,(pi 0)])) 0),(pc (.setc o4 0 (.mk [pF,(pi 0)])) 1)]
abbrev Ab:PE:=.con (.agg [(.bool false),(.int 0),(.int 0),(.list []),(.int 0)])
abbrev ZT:PE:=.ai .add .u64 (.ai .mul .u64 (.ai .shr .u64 r0 (.con (.v (.int .u64 32)))) (.ai .and .u64 r1 (.con (.v (.int .u64 4294967295))))) (.ai .shr .u64 (.ai .mul .u64 (.ai .and .u64 r0 (.con (.v (.int .u64 4294967295)))) (.ai .and .u64 r1 (.con (.v (.int .u64 4294967295))))) (.con (.v (.int .u64 32))))
abbrev wJ:PE:=.setc (.setc bT 3 (.tget IT 0)) 4 (.tget IT 1)
abbrev sw:PE:=pc (.mk [r0]) 2
abbrev Dw:PE:=.setc DA 0 (.mk [(pi 0),(pi 0),(pi 2),(pi 10),(pi 12),pL])
abbrev kL:PE:=aw 8 (.mk [r0])
abbrev IJ:PE:=.con (.agg [(.list []),(.int 0),(.int 0),(.bool false),(.int 0),(.list [])])
abbrev ZU:PE:=.mk [(pc ld 0),(pc ld 1),(pc ld 2),(pc ld 3),(pc ld 4),(pc ld 5),(pc ld 6),(pc ld 7),(pc ld 8),(pc ld 9),(pc ld 10),(pc ld 11),(pc ld 12),(pc ld 13),(pc ld 14),pL,pL,pL,pL]
abbrev O0:PE:=.con (.agg [(.list []),(.list []),(.list []),(.list []),(.list []),(.list []),(.list []),(.list [])])
abbrev la:PE:=.llen (pc o1 1)
abbrev IK:PE:=.mk [(pc o3 0),(pc o3 1),(pc o3 2),(pc o3 3),(pc o3 4),(.o 24579)]
abbrev O1:PE:=.mk [(pc (.setc o4 0 (.mk [(pi 0),(pi 0),pL])) 0),(pc (.setc o4 0 (.mk [(pi 0),(pi 0),pL])) 1),pL]
abbrev ZV:PE:=.app pL (.lst [(.mk [(pi 0),(pi 0),(pi 0),(pi (-1)),(pi (-1)),(pi 0),(pi 2),(pi 0),(pi 0)])])
abbrev mV:PE:=pc (.mk [r0]) 0
abbrev lb:PE:=.setc o4 0 o5
abbrev mW:PE:=.llen (pc o1 3)
abbrev ZW:PE:=.pick (.pick (aq (.tget jG 0) (.con (.v (.int .u64 0)))) (aj (.tget jG 1) (.con (.v (.int .u64 1099511627776)))) pF) (.conv .i64 (.tget jG 1)) (pi 1099511627776)
abbrev O2:PE:=aw 5 (.setc o8 0 (.mk [(pc bT 0),(pc bT 1),(pc bT 2),(.o 16394),(pc bT 4)]))
abbrev nP:PE:=.llen (pc o3 2)
abbrev nQ:PE:=.llen (pc o1 4)
abbrev sA:PE:=pn (pc o5 17) (pi 0)
abbrev ZX:PE:=.pick (.pick (.pick (aj (pc Aa 2) (pi 0)) pT (dc (pc Aa 2) (.llen (pc (.mk [r0]) 3)))) pT (aj r1 (pi 0))) pT (dc r1 (.llen (pc (.mk [r0]) 4)))
abbrev Ac:PE:=.setc (.setc DA 0 IG) 5 pN
abbrev O3:PE:=.put (.con (.map [])) (pi 7) (aU (.ai .and .i64 (pc o6 13) (pi 1)) (pi 0))
abbrev Ad:PE:=.setc (.setc o7 1 lg) 3 qJ
abbrev ZY:PE:=.app o2 (.lst [(pc (.setc (.con (.agg [(.v (.string ⟨#[]⟩)),(.int 0),(.int 0),(.list []),(.list []),(.list [])])) 0 (pn bP cv)) 0)])
abbrev wK:PE:=.setc z9 0 (pn bG cW)
abbrev ZZ:PE:=.pick (.nt (.nt (.an (.an ZR pT) (.nt pF)))) (.app (.o 1000) (.lst [(.tup [cv,(aw 9 (.setc z9 0 (pn bP cv)))])])) (.o 1000)
abbrev Dx:PE:=bW (pi 2) (pc (pn o7 (pi 0)) 1)
abbrev IL:PE:=.setc mc 0 (.sub (pn (pc o2 3) mX) 1 3)
abbrev qE:PE:=.llen (pc o1 2)
abbrev sB:PE:=pc (.mk [r0]) 15
abbrev Z0:PE:=.app o4 (.lst [(pc (.setc (.con (.agg [(.v (.string ⟨#[]⟩)),(.bool false),(.list []),(.list [])])) 0 (pn gm qG)) 0)])
abbrev Ae:PE:=.con (.v (.int .u64 32))
abbrev Z1:PE:=.app Ib (.lst [(.mk [(pi 7),(pc o8 2),(pi (-1)),(pc o8 1),jF,(pi 0),r4,(pc (pn (pc o5 3) (pc o8 2)) 1),(pi 0)])])
abbrev O4:PE:=.app (.app (.lst []) (.o 24592)) (.lst [(.mk [r5,r4,pF])])
abbrev Z2:PE:=.put (.put (.put IN (pi 11) (aU Pd Pe)) (pi 12) cW) (pi 13) (aU (.ai .and .i64 (pc o8 8) (pi 1)) (pi 0))
abbrev pz:PE:=pn r1 (pi 1)
abbrev O5:PE:=.put (.put OZ (pi 3) (pc o6 12)) (pi 4) (pc o8 0)
abbrev Z3:PE:=.pick (aX (.llen (pc (pn (pc o1 1) r3) 4)) (pi 70)) pT (aX (.llen (pc (pn (pc o1 1) r3) 5)) (pi 210))
abbrev Dy:PE:=.setc sv 0 (pn mX jH)
abbrev O6:PE:=.pick (.nt (pc o7 3)) (aU (pc l7 2) (pc o7 1)) pF
abbrev pA:PE:=.llen sw
abbrev Z4:PE:=.app o3 (.lst [(pc (.setc (.con (.agg [(.v (.string ⟨#[]⟩)),(.int 0),(.int 0)])) 0 (pn jH fW)) 0)])
abbrev Z5:PE:=.app o4 (.lst [(pc (.setc (.con (.agg [(.int 0),(.int 0),(.int 0),(.list [])])) 0 (pn fW nS)) 0)])
abbrev ur:PE:=.llen (pc o1 0)
abbrev Z6:PE:=.an (.cb .eql (pc (pn r1 (pi 0)) 0) (pc z8 0)) (.an (aq (pc (pn r1 (pi 0)) 1) (pc z8 1)) pT)
abbrev Z7:PE:=.app (.o 69637) (.lst [(.mk [(pc (.setc z2 0 (pn qJ qK)) 0),(pc (.setc z2 0 (pn qJ qK)) 1)])])
abbrev O7:PE:=.setc o4 0 (.mk [(pc o9 0),(pc o9 1),(pc o9 2)])
abbrev Z8:PE:=.app ZV (.lst [(.mk [(pi 2),(pi 0),(pi 2),(pi (-1)),(pi 1),(pi 0),(pi 20),(pi 0),(pi 0)])])
abbrev Dz:PE:=aX (pc l7 6) (pc o8 0)
abbrev uu:PE:=be r8 (pi 1)
abbrev uv:PE:=be r3 (pi 1)
abbrev Z9:PE:=.setc o4 0 (.mk [(pc (.setc fU 0 (.tget qF 0)) 0),(pc (.setc fU 0 (.tget qF 0)) 1)])
abbrev IM:PE:=.setc fU 0 (.mk [pT,(pi 1)])
abbrev IP:PE:=.setc fU 0 (.mk [pT,(pi 0)])
abbrev IQ:PE:=bW (.llen (pc o3 3)) (pi 1)
abbrev wL:PE:=pn (pc o1 4) r4
abbrev O8:PE:=aq (.sidx r0 r3) (.con (.v (.int .u8 95)))
abbrev wM:PE:=pc (.mk [r0]) 1
abbrev wN:PE:=.mk [pF,(pi 0)]
abbrev wO:PE:=.llen (pc o1 7)
abbrev sC:PE:=aj cv cW
abbrev O9:PE:=.app o5 (.lst [(pc (pn (pc o1 1) r6) 0)])
abbrev Pa:PE:=.app o4 (.lst [(pc (pn (pc o1 3) r5) 0)])
abbrev Af:PE:=pi 1099511627776
abbrev sD:PE:=pn de bP
abbrev Ag:PE:=pc (.mk [r0]) 5
abbrev Pb:PE:=.pick (dc r0 (pi 0)) (aj r0 r1) pF
abbrev aaa:PE:=.mk [(pc qy 0),(pc qy 1),(pc qy 2),(pc qy 3),(pc qy 4),(.o 24594)]
abbrev Ah:PE:=.llen (pc o1 5)
abbrev aab:PE:=.setc o4 0 (.mk [(pc (.setc fU 0 IY) 0),(pc (.setc fU 0 IY) 1)])
abbrev aac:PE:=.setc o4 0 (.mk [(pc (.setc fU 0 j8) 0),(pc (.setc fU 0 j8) 1)])
abbrev aad:PE:=.setc (.con (.agg [(.v .nilFunc),(.int 0)])) 0 (.sub (pn X3 pB) 0 2)
abbrev aae:PE:=.setc kY 0 (.mk [(.lst [(pi 1),(pi (-1)),(pi (-1))]),(pi (-1))])
abbrev ZP:PE:=.pick (aU (pc o3 22) (pi (-1))) (bW (pc o8 6) (pc o3 22)) (pi 0)
abbrev IE:PE:=.llen (pc (.mk [r0]) 4)
abbrev OY:PE:=.ai .rem .i64 (pn r8 de) (pi 100)
abbrev Dt:PE:=aw 19 (.mk [r1])
abbrev ZQ:PE:=.app (.o 77829) (.lst [(.mk [(pc ja 0),(pc ja 1),(pc ja 2)])])
abbrev IF:PE:=.con (.agg [(.int 0)])
end Rm
