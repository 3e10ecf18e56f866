/-
  What comes in as Lean's own data: realms, files, cases.
-/
import Derived.Test.YtefchokhgdmamaaGreatDoorUAJ
set_option linter.unusedSimpArgs false
set_option linter.unusedVariables false
namespace Rm
open Go Cx
abbrev str (b:ByteArray):D:=.v (.string b)
def strs (l:List ByteArray):D:=.list (l.map str)
@[simp] theorem axT (l:List ByteArray):(strs l).l=l.map str:=_root_.id rfl
theorem str_inv {d:D}(h:DTy .str d):∃b,d=str b:=by
 cases h with
 |str b=>exact⟨b,rfl⟩
 |other t d h=>exact h.elim
theorem ao7 {d:D}(h:DTy (.slice .str) d):∃l:List ByteArray,d=strs l∧l.length≤maxLen:=by
 obtain⟨xs,rfl,hm,hx⟩:=h.slice_inv;obtain⟨l,rfl,hl⟩:=kG (enc:=str) (P:=fun _=>True) fun x hh=>(str_inv (hx x hh)).imp fun b hb=>⟨hb,trivial⟩
 exact⟨l,rfl,by simpa using hm⟩
@[simp] theorem atH (t:Tm):(eh t).cells=[.int t.op,.int t.n,.list (t.args.map eh)]:=by rw[B9];rfl
@[simp] theorem atI (t:Tm):D.agg [.int t.op,.int t.n,.list (t.args.map eh)]=eh t:=(B9 t).symm
@[simp] theorem atD (t:Tm):(eh t).c 0=.int t.op:=by rw[B9];rfl
@[simp] theorem atE (t:Tm):(eh t).c 1=.int t.n:=by rw[B9];rfl
@[simp] theorem atG (t:Tm):(eh t).c 2=.list (t.args.map eh):=by rw[B9];rfl
structure City where
 name:ByteArray
 order:Int
 currency:Int
 rest:List Int
 feasts:List Int
 shut:List Int
 deriving Inhabited
def nv (x:City):D:=.agg [str x.name,.int x.order,.int x.currency,ints x.rest,ints x.feasts,ints x.shut]
@[simp] theorem asG (x:City):(nv x).cells=[str x.name,.int x.order,.int x.currency,ints x.rest,ints x.feasts,ints x.shut]:=_root_.id rfl
@[simp] theorem awO (x:City):D.agg [str x.name,.int x.order,.int x.currency,ints x.rest,ints x.feasts,ints x.shut]=nv x:=_root_.id rfl
@[simp] theorem asA (x:City):(nv x).c 0=str x.name:=_root_.id rfl
@[simp] theorem asB (x:City):(nv x).c 1=.int x.order:=_root_.id rfl
@[simp] theorem asC (x:City):(nv x).c 2=.int x.currency:=_root_.id rfl
@[simp] theorem asD (x:City):(nv x).c 3=ints x.rest:=_root_.id rfl
@[simp] theorem asE (x:City):(nv x).c 4=ints x.feasts:=_root_.id rfl
@[simp] theorem asF (x:City):(nv x).c 5=ints x.shut:=_root_.id rfl
def y4 (l:List City):D:=.list (l.map nv)
@[simp] theorem auq (l:List City):(y4 l).l=l.map nv:=_root_.id rfl
abbrev Tq:Ty:=.agg [.str,.int .i64,.int .i64,.slice (.int .i64),.slice (.int .i64),.slice (.int .i64)]
def City.OK (x:City):Prop:=aW x.order∧aW x.currency∧(x.rest.length≤maxLen∧∀y,y∈x.rest→aW y)∧(x.feasts.length≤maxLen∧∀y,y∈x.feasts→aW y)∧(x.shut.length≤maxLen∧∀y,y∈x.shut→aW y)
theorem aef {d:D}(h:DTy Tq d):∃x:City,d=nv x∧x.OK:=by
 obtain⟨ds,rfl,hs⟩:=h.agg_inv;obtain⟨d0,ds,rfl,h0,hs⟩:=hs.cons_inv;obtain⟨d1,ds,rfl,h1,hs⟩:=hs.cons_inv;obtain⟨d2,ds,rfl,h2,hs⟩:=hs.cons_inv;obtain⟨d3,ds,rfl,h3,hs⟩:=hs.cons_inv;obtain⟨d4,ds,rfl,h4,hs⟩:=hs.cons_inv;obtain⟨d5,ds,rfl,h5,hs⟩:=hs.cons_inv;obtain rfl:=hs.nil_inv;obtain⟨n0,rfl⟩:=str_inv h0;obtain⟨n1,rfl,b1⟩:=h1.i64_inv;obtain⟨n2,rfl,b2⟩:=h2.i64_inv;obtain⟨n3,rfl,b3,c3⟩:=h3.ints_inv;obtain⟨n4,rfl,b4,c4⟩:=h4.ints_inv;obtain⟨n5,rfl,b5,c5⟩:=h5.ints_inv;exact⟨⟨n0,n1,n2,n3,n4,n5⟩,rfl,⟨b1,b2,⟨b3,c3⟩,⟨b4,c4⟩,⟨b5,c5⟩⟩⟩
theorem aeg {d:D}(h:DTy (.slice Tq) d):∃l:List City,d=y4 l∧l.length≤maxLen∧∀y,y∈l→City.OK y:=by
 obtain⟨xs,rfl,hm,hx⟩:=h.slice_inv;obtain⟨l,rfl,hl⟩:=kG (enc:=nv) (P:=City.OK) fun x hh=>aef (hx x hh);exact⟨l,rfl,by simpa using hm,hl⟩
structure Firm where
 name:ByteArray
 city:Int
 group:Int
 deriving Inhabited
def sy (x:Firm):D:=.agg [str x.name,.int x.city,.int x.group]
@[simp] theorem asV (x:Firm):(sy x).cells=[str x.name,.int x.city,.int x.group]:=_root_.id rfl
@[simp] theorem awR (x:Firm):D.agg [str x.name,.int x.city,.int x.group]=sy x:=_root_.id rfl
@[simp] theorem asS (x:Firm):(sy x).c 0=str x.name:=_root_.id rfl
@[simp] theorem asT (x:Firm):(sy x).c 1=.int x.city:=_root_.id rfl
@[simp] theorem asU (x:Firm):(sy x).c 2=.int x.group:=_root_.id rfl
def firms (l:List Firm):D:=.list (l.map sy)
@[simp] theorem avB (l:List Firm):(firms l).l=l.map sy:=_root_.id rfl
abbrev Ts:Ty:=.agg [.str,.int .i64,.int .i64]
def Firm.OK (x:Firm):Prop:=aW x.city∧aW x.group
theorem af9 {d:D}(h:DTy Ts d):∃x:Firm,d=sy x∧x.OK:=by
 obtain⟨ds,rfl,hs⟩:=h.agg_inv;obtain⟨d0,ds,rfl,h0,hs⟩:=hs.cons_inv;obtain⟨d1,ds,rfl,h1,hs⟩:=hs.cons_inv;obtain⟨d2,ds,rfl,h2,hs⟩:=hs.cons_inv;obtain rfl:=hs.nil_inv;obtain⟨n0,rfl⟩:=str_inv h0;obtain⟨n1,rfl,b1⟩:=h1.i64_inv;obtain⟨n2,rfl,b2⟩:=h2.i64_inv;exact⟨⟨n0,n1,n2⟩,rfl,⟨b1,b2⟩⟩
theorem aga {d:D}(h:DTy (.slice Ts) d):∃l:List Firm,d=firms l∧l.length≤maxLen∧∀y,y∈l→Firm.OK y:=by
 obtain⟨xs,rfl,hm,hx⟩:=h.slice_inv;obtain⟨l,rfl,hl⟩:=kG (enc:=sy) (P:=Firm.OK) fun x hh=>af9 (hx x hh);exact⟨l,rfl,by simpa using hm,hl⟩
structure Group where
 grade:Int
 deriving DecidableEq,Inhabited
def wg (x:Group):D:=.agg [.int x.grade]
@[simp] theorem asX (x:Group):(wg x).cells=[.int x.grade]:=_root_.id rfl
@[simp] theorem awS (x:Group):D.agg [.int x.grade]=wg x:=_root_.id rfl
@[simp] theorem asW (x:Group):(wg x).c 0=.int x.grade:=_root_.id rfl
def groups (l:List Group):D:=.list (l.map wg)
@[simp] theorem avK (l:List Group):(groups l).l=l.map wg:=_root_.id rfl
abbrev Tt:Ty:=.agg [.int .i64]
def Group.OK (x:Group):Prop:=aW x.grade
theorem ahl {d:D}(h:DTy Tt d):∃x:Group,d=wg x∧x.OK:=by
 obtain⟨ds,rfl,hs⟩:=h.agg_inv;obtain⟨d0,ds,rfl,h0,hs⟩:=hs.cons_inv;obtain rfl:=hs.nil_inv;obtain⟨n0,rfl,b0⟩:=h0.i64_inv;exact⟨⟨n0⟩,rfl,b0⟩
theorem ahm {d:D}(h:DTy (.slice Tt) d):∃l:List Group,d=groups l∧l.length≤maxLen∧∀y,y∈l→Group.OK y:=by
 obtain⟨xs,rfl,hm,hx⟩:=h.slice_inv;obtain⟨l,rfl,hl⟩:=kG (enc:=wg) (P:=Group.OK) fun x hh=>ahl (hx x hh);exact⟨l,rfl,by simpa using hm,hl⟩
structure Usance where
 fr:Int
 to:Int
 days:Int
 deriving DecidableEq,Inhabited
def sD (x:Usance):D:=.agg [.int x.fr,.int x.to,.int x.days]
@[simp] theorem atQ (x:Usance):(sD x).cells=[.int x.fr,.int x.to,.int x.days]:=_root_.id rfl
@[simp] theorem aw1 (x:Usance):D.agg [.int x.fr,.int x.to,.int x.days]=sD x:=_root_.id rfl
@[simp] theorem atN (x:Usance):(sD x).c 0=.int x.fr:=_root_.id rfl
@[simp] theorem atO (x:Usance):(sD x).c 1=.int x.to:=_root_.id rfl
@[simp] theorem atP (x:Usance):(sD x).c 2=.int x.days:=_root_.id rfl
def usances (l:List Usance):D:=.list (l.map sD)
@[simp] theorem axW (l:List Usance):(usances l).l=l.map sD:=_root_.id rfl
abbrev TA:Ty:=.agg [.int .i64,.int .i64,.int .i64]
def Usance.OK (x:Usance):Prop:=aW x.fr∧aW x.to∧aW x.days
theorem arf {d:D}(h:DTy TA d):∃x:Usance,d=sD x∧x.OK:=by
 obtain⟨ds,rfl,hs⟩:=h.agg_inv;obtain⟨d0,ds,rfl,h0,hs⟩:=hs.cons_inv;obtain⟨d1,ds,rfl,h1,hs⟩:=hs.cons_inv;obtain⟨d2,ds,rfl,h2,hs⟩:=hs.cons_inv;obtain rfl:=hs.nil_inv;obtain⟨n0,rfl,b0⟩:=h0.i64_inv;obtain⟨n1,rfl,b1⟩:=h1.i64_inv;obtain⟨n2,rfl,b2⟩:=h2.i64_inv;exact⟨⟨n0,n1,n2⟩,rfl,⟨b0,b1,b2⟩⟩
theorem arh {d:D}(h:DTy (.slice TA) d):∃l:List Usance,d=usances l∧l.length≤maxLen∧∀y,y∈l→Usance.OK y:=by
 obtain⟨xs,rfl,hm,hx⟩:=h.slice_inv;obtain⟨l,rfl,hl⟩:=kG (enc:=sD) (P:=Usance.OK) fun x hh=>arf (hx x hh);exact⟨l,rfl,by simpa using hm,hl⟩
structure Rate where
 fr:Int
 to:Int
 num:Int
 den:Int
 since:Int
 deriving DecidableEq,Inhabited
def pG (x:Rate):D:=.agg [.int x.fr,.int x.to,.int x.num,.int x.den,.int x.since]
@[simp] theorem atc (x:Rate):(pG x).cells=[.int x.fr,.int x.to,.int x.num,.int x.den,.int x.since]:=_root_.id rfl
@[simp] theorem awV (x:Rate):D.agg [.int x.fr,.int x.to,.int x.num,.int x.den,.int x.since]=pG x:=_root_.id rfl
@[simp] theorem as7 (x:Rate):(pG x).c 0=.int x.fr:=_root_.id rfl
@[simp] theorem as8 (x:Rate):(pG x).c 1=.int x.to:=_root_.id rfl
@[simp] theorem as9 (x:Rate):(pG x).c 2=.int x.num:=_root_.id rfl
@[simp] theorem ata (x:Rate):(pG x).c 3=.int x.den:=_root_.id rfl
@[simp] theorem atb (x:Rate):(pG x).c 4=.int x.since:=_root_.id rfl
def rates (l:List Rate):D:=.list (l.map pG)
@[simp] theorem axo (l:List Rate):(rates l).l=l.map pG:=_root_.id rfl
abbrev Tw:Ty:=.agg [.int .i64,.int .i64,.int .i64,.int .i64,.int .i64]
def Rate.OK (x:Rate):Prop:=aW x.fr∧aW x.to∧aW x.num∧aW x.den∧aW x.since
theorem an8 {d:D}(h:DTy Tw d):∃x:Rate,d=pG x∧x.OK:=by
 obtain⟨ds,rfl,hs⟩:=h.agg_inv;obtain⟨d0,ds,rfl,h0,hs⟩:=hs.cons_inv;obtain⟨d1,ds,rfl,h1,hs⟩:=hs.cons_inv;obtain⟨d2,ds,rfl,h2,hs⟩:=hs.cons_inv;obtain⟨d3,ds,rfl,h3,hs⟩:=hs.cons_inv;obtain⟨d4,ds,rfl,h4,hs⟩:=hs.cons_inv;obtain rfl:=hs.nil_inv;obtain⟨n0,rfl,b0⟩:=h0.i64_inv;obtain⟨n1,rfl,b1⟩:=h1.i64_inv;obtain⟨n2,rfl,b2⟩:=h2.i64_inv;obtain⟨n3,rfl,b3⟩:=h3.i64_inv;obtain⟨n4,rfl,b4⟩:=h4.i64_inv;exact⟨⟨n0,n1,n2,n3,n4⟩,rfl,⟨b0,b1,b2,b3,b4⟩⟩
theorem an9 {d:D}(h:DTy (.slice Tw) d):∃l:List Rate,d=rates l∧l.length≤maxLen∧∀y,y∈l→Rate.OK y:=by
 obtain⟨xs,rfl,hm,hx⟩:=h.slice_inv;obtain⟨l,rfl,hl⟩:=kG (enc:=pG) (P:=Rate.OK) fun x hh=>an8 (hx x hh);exact⟨l,rfl,by simpa using hm,hl⟩
structure Halt where
 order:Int
 fr:Int
 to:Int
 deriving DecidableEq,Inhabited
def sA (x:Halt):D:=.agg [.int x.order,.int x.fr,.int x.to]
@[simp] theorem as1 (x:Halt):(sA x).cells=[.int x.order,.int x.fr,.int x.to]:=_root_.id rfl
@[simp] theorem awT (x:Halt):D.agg [.int x.order,.int x.fr,.int x.to]=sA x:=_root_.id rfl
@[simp] theorem asY (x:Halt):(sA x).c 0=.int x.order:=_root_.id rfl
@[simp] theorem asZ (x:Halt):(sA x).c 1=.int x.fr:=_root_.id rfl
@[simp] theorem as0 (x:Halt):(sA x).c 2=.int x.to:=_root_.id rfl
def halts (l:List Halt):D:=.list (l.map sA)
@[simp] theorem avV (l:List Halt):(halts l).l=l.map sA:=_root_.id rfl
abbrev Tu:Ty:=.agg [.int .i64,.int .i64,.int .i64]
def Halt.OK (x:Halt):Prop:=aW x.order∧aW x.fr∧aW x.to
theorem ah4 {d:D}(h:DTy Tu d):∃x:Halt,d=sA x∧x.OK:=by
 obtain⟨ds,rfl,hs⟩:=h.agg_inv;obtain⟨d0,ds,rfl,h0,hs⟩:=hs.cons_inv;obtain⟨d1,ds,rfl,h1,hs⟩:=hs.cons_inv;obtain⟨d2,ds,rfl,h2,hs⟩:=hs.cons_inv;obtain rfl:=hs.nil_inv;obtain⟨n0,rfl,b0⟩:=h0.i64_inv;obtain⟨n1,rfl,b1⟩:=h1.i64_inv;obtain⟨n2,rfl,b2⟩:=h2.i64_inv;exact⟨⟨n0,n1,n2⟩,rfl,⟨b0,b1,b2⟩⟩
theorem ah5 {d:D}(h:DTy (.slice Tu) d):∃l:List Halt,d=halts l∧l.length≤maxLen∧∀y,y∈l→Halt.OK y:=by
 obtain⟨xs,rfl,hm,hx⟩:=h.slice_inv;obtain⟨l,rfl,hl⟩:=kG (enc:=sA) (P:=Halt.OK) fun x hh=>ah4 (hx x hh);exact⟨l,rfl,by simpa using hm,hl⟩
structure Choice where
 ask:Int
 by_:Int
 whole:Bool
 deriving DecidableEq,Inhabited
def uf (x:Choice):D:=.agg [.int x.ask,.int x.by_,.bool x.whole]
@[simp] theorem asz (x:Choice):(uf x).cells=[.int x.ask,.int x.by_,.bool x.whole]:=_root_.id rfl
@[simp] theorem awN (x:Choice):D.agg [.int x.ask,.int x.by_,.bool x.whole]=uf x:=_root_.id rfl
@[simp] theorem asx (x:Choice):(uf x).c 0=.int x.ask:=_root_.id rfl
@[simp] theorem asy (x:Choice):(uf x).c 1=.int x.by_:=_root_.id rfl
def choices (l:List Choice):D:=.list (l.map uf)
@[simp] theorem aup (l:List Choice):(choices l).l=l.map uf:=_root_.id rfl
abbrev Tp:Ty:=.agg [.int .i64,.int .i64,.bool]
def Choice.OK (x:Choice):Prop:=aW x.ask∧aW x.by_
theorem aed {d:D}(h:DTy Tp d):∃x:Choice,d=uf x∧x.OK:=by
 obtain⟨ds,rfl,hs⟩:=h.agg_inv;obtain⟨d0,ds,rfl,h0,hs⟩:=hs.cons_inv;obtain⟨d1,ds,rfl,h1,hs⟩:=hs.cons_inv;obtain⟨d2,ds,rfl,h2,hs⟩:=hs.cons_inv;obtain rfl:=hs.nil_inv;obtain⟨n0,rfl,b0⟩:=h0.i64_inv;obtain⟨n1,rfl,b1⟩:=h1.i64_inv;obtain⟨n2,rfl⟩:=h2.bool_inv;exact⟨⟨n0,n1,n2⟩,rfl,⟨b0,b1⟩⟩
theorem aee {d:D}(h:DTy (.slice Tp) d):∃l:List Choice,d=choices l∧l.length≤maxLen∧∀y,y∈l→Choice.OK y:=by
 obtain⟨xs,rfl,hm,hx⟩:=h.slice_inv;obtain⟨l,rfl,hl⟩:=kG (enc:=uf) (P:=Choice.OK) fun x hh=>aed (hx x hh);exact⟨l,rfl,by simpa using hm,hl⟩
structure Rule where
 ask:Int
 term:Tm
 deriving Inhabited
def sB (x:Rule):D:=.agg [.int x.ask,.int x.term.op,.int x.term.n,.list (x.term.args.map eh)]
@[simp] theorem atn (x:Rule):(sB x).cells=[.int x.ask,.int x.term.op,.int x.term.n,.list (x.term.args.map eh)]:=_root_.id rfl
@[simp] theorem awX (x:Rule):D.agg [.int x.ask,.int x.term.op,.int x.term.n,.list (x.term.args.map eh)]=sB x:=_root_.id rfl
@[simp] theorem atm (x:Rule):(sB x).c 0=.int x.ask:=_root_.id rfl
def rules (l:List Rule):D:=.list (l.map sB)
@[simp] theorem axs (l:List Rule):(rules l).l=l.map sB:=_root_.id rfl
abbrev Tx:Ty:=.agg [.int .i64,.int .i64,.int .i64,.slice .trm]
def Rule.OK (x:Rule):Prop:=aW x.ask∧Tm.OK x.term
theorem aoF {d:D}(h:DTy Tx d):∃x:Rule,d=sB x∧x.OK:=by
 obtain⟨ds,rfl,hs⟩:=h.agg_inv;obtain⟨d0,ds,rfl,h0,hs⟩:=hs.cons_inv;obtain⟨d1,ds,rfl,h1,hs⟩:=hs.cons_inv;obtain⟨d2,ds,rfl,h2,hs⟩:=hs.cons_inv;obtain⟨d3,ds,rfl,h3,hs⟩:=hs.cons_inv;obtain rfl:=hs.nil_inv;obtain⟨n0,rfl,b0⟩:=h0.i64_inv;obtain⟨n1,rfl,b1⟩:=h1.i64_inv;obtain⟨n2,rfl,b2⟩:=h2.i64_inv;obtain⟨n3,rfl,b3,c3⟩:=h3.trms_inv;exact⟨⟨n0,.mk n1 n2 n3⟩,rfl,⟨b0,.mk _ _ _ b1 b2 b3 c3⟩⟩
theorem aoG {d:D}(h:DTy (.slice Tx) d):∃l:List Rule,d=rules l∧l.length≤maxLen∧∀y,y∈l→Rule.OK y:=by
 obtain⟨xs,rfl,hm,hx⟩:=h.slice_inv;obtain⟨l,rfl,hl⟩:=kG (enc:=sB) (P:=Rule.OK) fun x hh=>aoF (hx x hh);exact⟨l,rfl,by simpa using hm,hl⟩
structure Order where
 name:ByteArray
 accepts:Bool
 choices:List Choice
 rules:List Rule
 deriving Inhabited
def kZ (x:Order):D:=.agg [str x.name,.bool x.accepts,choices x.choices,rules x.rules]
@[simp] theorem as6 (x:Order):(kZ x).cells=[str x.name,.bool x.accepts,choices x.choices,rules x.rules]:=_root_.id rfl
@[simp] theorem awU (x:Order):D.agg [str x.name,.bool x.accepts,choices x.choices,rules x.rules]=kZ x:=_root_.id rfl
@[simp] theorem at2 (x:Order):mB 4 (kZ x)=kZ x:=_root_.id rfl
@[simp] theorem as2 (x:Order):(kZ x).c 0=str x.name:=_root_.id rfl
@[simp] theorem as3 (x:Order):(kZ x).c 1=.bool x.accepts:=_root_.id rfl
@[simp] theorem as4 (x:Order):(kZ x).c 2=choices x.choices:=_root_.id rfl
@[simp] theorem as5 (x:Order):(kZ x).c 3=rules x.rules:=_root_.id rfl
def orders (l:List Order):D:=.list (l.map kZ)
@[simp] theorem aw8 (l:List Order):(orders l).l=l.map kZ:=_root_.id rfl
abbrev Tv:Ty:=.agg [.str,.bool,.slice Tp,.slice Tx]
def Order.OK (x:Order):Prop:=(x.choices.length≤maxLen∧∀y,y∈x.choices→Choice.OK y)∧(x.rules.length≤maxLen∧∀y,y∈x.rules→Rule.OK y)
theorem anc {d:D}(h:DTy Tv d):∃x:Order,d=kZ x∧x.OK:=by
 obtain⟨ds,rfl,hs⟩:=h.agg_inv;obtain⟨d0,ds,rfl,h0,hs⟩:=hs.cons_inv;obtain⟨d1,ds,rfl,h1,hs⟩:=hs.cons_inv;obtain⟨d2,ds,rfl,h2,hs⟩:=hs.cons_inv;obtain⟨d3,ds,rfl,h3,hs⟩:=hs.cons_inv;obtain rfl:=hs.nil_inv;obtain⟨n0,rfl⟩:=str_inv h0;obtain⟨n1,rfl⟩:=h1.bool_inv;obtain⟨n2,rfl,b2,c2⟩:=aee h2;obtain⟨n3,rfl,b3,c3⟩:=aoG h3;exact⟨⟨n0,n1,n2,n3⟩,rfl,⟨⟨b2,c2⟩,⟨b3,c3⟩⟩⟩
theorem ane {d:D}(h:DTy (.slice Tv) d):∃l:List Order,d=orders l∧l.length≤maxLen∧∀y,y∈l→Order.OK y:=by
 obtain⟨xs,rfl,hm,hx⟩:=h.slice_inv;obtain⟨l,rfl,hl⟩:=kG (enc:=kZ) (P:=Order.OK) fun x hh=>anc (hx x hh);exact⟨l,rfl,by simpa using hm,hl⟩
structure Realm where
 currencies:List ByteArray
 cities:List City
 groups:List Group
 firms:List Firm
 orders:List Order
 usances:List Usance
 rates:List Rate
 halts:List Halt
 deriving Inhabited
def bK (x:Realm):D:=.agg [strs x.currencies,y4 x.cities,groups x.groups,firms x.firms,orders x.orders,usances x.usances,rates x.rates,halts x.halts]
@[simp] theorem atl (x:Realm):(bK x).cells=[strs x.currencies,y4 x.cities,groups x.groups,firms x.firms,orders x.orders,usances x.usances,rates x.rates,halts x.halts]:=_root_.id rfl
@[simp] theorem awW (x:Realm):D.agg [strs x.currencies,y4 x.cities,groups x.groups,firms x.firms,orders x.orders,usances x.usances,rates x.rates,halts x.halts]=bK x:=_root_.id rfl
@[simp] theorem at3 (x:Realm):mB 8 (bK x)=bK x:=_root_.id rfl
@[simp] theorem atd (x:Realm):(bK x).c 0=strs x.currencies:=_root_.id rfl
@[simp] theorem ate (x:Realm):(bK x).c 1=y4 x.cities:=_root_.id rfl
@[simp] theorem atf (x:Realm):(bK x).c 2=groups x.groups:=_root_.id rfl
@[simp] theorem atg (x:Realm):(bK x).c 3=firms x.firms:=_root_.id rfl
@[simp] theorem ath (x:Realm):(bK x).c 4=orders x.orders:=_root_.id rfl
@[simp] theorem ati (x:Realm):(bK x).c 5=usances x.usances:=_root_.id rfl
@[simp] theorem atj (x:Realm):(bK x).c 6=rates x.rates:=_root_.id rfl
@[simp] theorem atk (x:Realm):(bK x).c 7=halts x.halts:=_root_.id rfl
abbrev aq7:Ty:=.agg [.slice .str,.slice Tq,.slice Tt,.slice Ts,.slice Tv,.slice TA,.slice Tw,.slice Tu]
def Realm.OK (x:Realm):Prop:=x.currencies.length≤maxLen∧(x.cities.length≤maxLen∧∀y,y∈x.cities→City.OK y)∧(x.groups.length≤maxLen∧∀y,y∈x.groups→Group.OK y)∧(x.firms.length≤maxLen∧∀y,y∈x.firms→Firm.OK y)∧(x.orders.length≤maxLen∧∀y,y∈x.orders→Order.OK y)∧(x.usances.length≤maxLen∧∀y,y∈x.usances→Usance.OK y)∧(x.rates.length≤maxLen∧∀y,y∈x.rates→Rate.OK y)∧(x.halts.length≤maxLen∧∀y,y∈x.halts→Halt.OK y)
theorem Ra {d:D}(h:DTy aq7 d):∃x:Realm,d=bK x∧x.OK:=by
 obtain⟨ds,rfl,hs⟩:=h.agg_inv;obtain⟨d0,ds,rfl,h0,hs⟩:=hs.cons_inv;obtain⟨d1,ds,rfl,h1,hs⟩:=hs.cons_inv;obtain⟨d2,ds,rfl,h2,hs⟩:=hs.cons_inv;obtain⟨d3,ds,rfl,h3,hs⟩:=hs.cons_inv;obtain⟨d4,ds,rfl,h4,hs⟩:=hs.cons_inv;obtain⟨d5,ds,rfl,h5,hs⟩:=hs.cons_inv;obtain⟨d6,ds,rfl,h6,hs⟩:=hs.cons_inv;obtain⟨d7,ds,rfl,h7,hs⟩:=hs.cons_inv;obtain rfl:=hs.nil_inv;obtain⟨n0,rfl,b0⟩:=ao7 h0;obtain⟨n1,rfl,b1,c1⟩:=aeg h1;obtain⟨n2,rfl,b2,c2⟩:=ahm h2;obtain⟨n3,rfl,b3,c3⟩:=aga h3;obtain⟨n4,rfl,b4,c4⟩:=ane h4;obtain⟨n5,rfl,b5,c5⟩:=arh h5;obtain⟨n6,rfl,b6,c6⟩:=an9 h6;obtain⟨n7,rfl,b7,c7⟩:=ah5 h7;exact⟨⟨n0,n1,n2,n3,n4,n5,n6,n7⟩,rfl,⟨b0,⟨b1,c1⟩,⟨b2,c2⟩,⟨b3,c3⟩,⟨b4,c4⟩,⟨b5,c5⟩,⟨b6,c6⟩,⟨b7,c7⟩⟩⟩
structure Tenor where
 kind:Int
 n:Int
 unit:Int
 deriving DecidableEq,Inhabited
def Ca (x:Tenor):D:=.agg [.int x.kind,.int x.n,.int x.unit]
@[simp] theorem atM (x:Tenor):(Ca x).cells=[.int x.kind,.int x.n,.int x.unit]:=_root_.id rfl
@[simp] theorem aw0 (x:Tenor):D.agg [.int x.kind,.int x.n,.int x.unit]=Ca x:=_root_.id rfl
@[simp] theorem atJ (x:Tenor):(Ca x).c 0=.int x.kind:=_root_.id rfl
@[simp] theorem atK (x:Tenor):(Ca x).c 1=.int x.n:=_root_.id rfl
@[simp] theorem atL (x:Tenor):(Ca x).c 2=.int x.unit:=_root_.id rfl
def Tenor.OK (x:Tenor):Prop:=aW x.kind∧aW x.n∧aW x.unit
structure Bill where
 drawer:Int
 drawee:Int
 payee:Int
 sum:Int
 currency:Int
 tenor:Tenor
 day:Int
 city:Int
 pay:Int
 need:Int
 rate:Int
 flags:Int
 parts:Int
 deriving DecidableEq,Inhabited
def gp (x:Bill):D:=.agg [.int x.drawer,.int x.drawee,.int x.payee,.int x.sum,.int x.currency,.int x.tenor.kind,.int x.tenor.n,.int x.tenor.unit,.int x.day,.int x.city,.int x.pay,.int x.need,.int x.rate,.int x.flags,.int x.parts]
@[simp] theorem ash (x:Bill):(gp x).cells=[.int x.drawer,.int x.drawee,.int x.payee,.int x.sum,.int x.currency,.int x.tenor.kind,.int x.tenor.n,.int x.tenor.unit,.int x.day,.int x.city,.int x.pay,.int x.need,.int x.rate,.int x.flags,.int x.parts]:=_root_.id rfl
@[simp] theorem awK (x:Bill):D.agg [.int x.drawer,.int x.drawee,.int x.payee,.int x.sum,.int x.currency,.int x.tenor.kind,.int x.tenor.n,.int x.tenor.unit,.int x.day,.int x.city,.int x.pay,.int x.need,.int x.rate,.int x.flags,.int x.parts]=gp x:=_root_.id rfl
@[simp] theorem at0 (x:Bill):mB 15 (gp x)=gp x:=_root_.id rfl
@[simp] theorem aw9 (x:Bill)(a0 a1 a2 a3 a4 a5 a6 a7 a8 a9 vS vT vU vV vW:D):D.agg (ff [a0,a1,a2,a3,a4,a5,a6,a7,a8,a9,vS,vT,vU,vV,vW] 0 [.int x.drawer,.int x.drawee,.int x.payee,.int x.sum,.int x.currency,.int x.tenor.kind,.int x.tenor.n,.int x.tenor.unit,.int x.day,.int x.city,.int x.pay,.int x.need,.int x.rate,.int x.flags,.int x.parts])=gp x:=_root_.id rfl
@[simp] theorem ar2 (x:Bill):(gp x).c 0=.int x.drawer:=_root_.id rfl
@[simp] theorem ar3 (x:Bill):(gp x).c 1=.int x.drawee:=_root_.id rfl
@[simp] theorem ar9 (x:Bill):(gp x).c 2=.int x.payee:=_root_.id rfl
@[simp] theorem asa (x:Bill):(gp x).c 3=.int x.sum:=_root_.id rfl
@[simp] theorem asb (x:Bill):(gp x).c 4=.int x.currency:=_root_.id rfl
@[simp] theorem asc (x:Bill):(gp x).c 5=.int x.tenor.kind:=_root_.id rfl
@[simp] theorem asd (x:Bill):(gp x).c 6=.int x.tenor.n:=_root_.id rfl
@[simp] theorem ase (x:Bill):(gp x).c 7=.int x.tenor.unit:=_root_.id rfl
@[simp] theorem asf (x:Bill):(gp x).c 8=.int x.day:=_root_.id rfl
@[simp] theorem asg (x:Bill):(gp x).c 9=.int x.city:=_root_.id rfl
@[simp] theorem ar4 (x:Bill):(gp x).c 10=.int x.pay:=_root_.id rfl
@[simp] theorem ar5 (x:Bill):(gp x).c 11=.int x.need:=_root_.id rfl
@[simp] theorem ar6 (x:Bill):(gp x).c 12=.int x.rate:=_root_.id rfl
@[simp] theorem ar7 (x:Bill):(gp x).c 13=.int x.flags:=_root_.id rfl
@[simp] theorem ar8 (x:Bill):(gp x).c 14=.int x.parts:=_root_.id rfl
def Bill.OK (x:Bill):Prop:=aW x.drawer∧aW x.drawee∧aW x.payee∧aW x.sum∧aW x.currency∧Tenor.OK x.tenor∧aW x.day∧aW x.city∧aW x.pay∧aW x.need∧aW x.rate∧aW x.flags∧aW x.parts
structure Sign where
 kind:Int
 part:Int
 who:Int
 for_:Int
 to:Int
 sum:Int
 day:Int
 city:Int
 flags:Int
 deriving DecidableEq,Inhabited
def kr (x:Sign):D:=.agg [.int x.kind,.int x.part,.int x.who,.int x.for_,.int x.to,.int x.sum,.int x.day,.int x.city,.int x.flags]
@[simp] theorem atC (x:Sign):(kr x).cells=[.int x.kind,.int x.part,.int x.who,.int x.for_,.int x.to,.int x.sum,.int x.day,.int x.city,.int x.flags]:=_root_.id rfl
@[simp] theorem awZ (x:Sign):D.agg [.int x.kind,.int x.part,.int x.who,.int x.for_,.int x.to,.int x.sum,.int x.day,.int x.city,.int x.flags]=kr x:=_root_.id rfl
@[simp] theorem at4 (x:Sign):mB 9 (kr x)=kr x:=_root_.id rfl
@[simp] theorem ats (x:Sign):(kr x).c 0=.int x.kind:=_root_.id rfl
@[simp] theorem att (x:Sign):(kr x).c 1=.int x.part:=_root_.id rfl
@[simp] theorem atu (x:Sign):(kr x).c 2=.int x.who:=_root_.id rfl
@[simp] theorem atv (x:Sign):(kr x).c 3=.int x.for_:=_root_.id rfl
@[simp] theorem atw (x:Sign):(kr x).c 4=.int x.to:=_root_.id rfl
@[simp] theorem atx (x:Sign):(kr x).c 5=.int x.sum:=_root_.id rfl
@[simp] theorem aty (x:Sign):(kr x).c 6=.int x.day:=_root_.id rfl
@[simp] theorem atz (x:Sign):(kr x).c 7=.int x.city:=_root_.id rfl
@[simp] theorem atA (x:Sign):(kr x).c 8=.int x.flags:=_root_.id rfl
def signs (l:List Sign):D:=.list (l.map kr)
@[simp] theorem axD (l:List Sign):(signs l).l=l.map kr:=_root_.id rfl
@[simp] theorem axC (l:List Sign):(signs l).cells=[signs l]:=_root_.id rfl
abbrev Tz:Ty:=.agg [.int .i64,.int .i64,.int .i64,.int .i64,.int .i64,.int .i64,.int .i64,.int .i64,.int .i64]
def Sign.OK (x:Sign):Prop:=aW x.kind∧aW x.part∧aW x.who∧aW x.for_∧aW x.to∧aW x.sum∧aW x.day∧aW x.city∧aW x.flags
theorem ao3 {d:D}(h:DTy Tz d):∃x:Sign,d=kr x∧x.OK:=by
 obtain⟨ds,rfl,hs⟩:=h.agg_inv;obtain⟨d0,ds,rfl,h0,hs⟩:=hs.cons_inv;obtain⟨d1,ds,rfl,h1,hs⟩:=hs.cons_inv;obtain⟨d2,ds,rfl,h2,hs⟩:=hs.cons_inv;obtain⟨d3,ds,rfl,h3,hs⟩:=hs.cons_inv;obtain⟨d4,ds,rfl,h4,hs⟩:=hs.cons_inv;obtain⟨d5,ds,rfl,h5,hs⟩:=hs.cons_inv;obtain⟨d6,ds,rfl,h6,hs⟩:=hs.cons_inv;obtain⟨d7,ds,rfl,h7,hs⟩:=hs.cons_inv;obtain⟨d8,ds,rfl,h8,hs⟩:=hs.cons_inv;obtain rfl:=hs.nil_inv;obtain⟨n0,rfl,b0⟩:=h0.i64_inv;obtain⟨n1,rfl,b1⟩:=h1.i64_inv;obtain⟨n2,rfl,b2⟩:=h2.i64_inv;obtain⟨n3,rfl,b3⟩:=h3.i64_inv;obtain⟨n4,rfl,b4⟩:=h4.i64_inv;obtain⟨n5,rfl,b5⟩:=h5.i64_inv;obtain⟨n6,rfl,b6⟩:=h6.i64_inv;obtain⟨n7,rfl,b7⟩:=h7.i64_inv;obtain⟨n8,rfl,b8⟩:=h8.i64_inv;exact⟨⟨n0,n1,n2,n3,n4,n5,n6,n7,n8⟩,rfl,⟨b0,b1,b2,b3,b4,b5,b6,b7,b8⟩⟩
theorem ao4 {d:D}(h:DTy (.slice Tz) d):∃l:List Sign,d=signs l∧l.length≤maxLen∧∀y,y∈l→Sign.OK y:=by
 obtain⟨xs,rfl,hm,hx⟩:=h.slice_inv;obtain⟨l,rfl,hl⟩:=kG (enc:=kr) (P:=Sign.OK) fun x hh=>ao3 (hx x hh);exact⟨l,rfl,by simpa using hm,hl⟩
structure Alter where
 at_:Int
 sum:Int
 deriving DecidableEq,Inhabited
def pE (x:Alter):D:=.agg [.int x.at_,.int x.sum]
@[simp] theorem ar1 (x:Alter):(pE x).cells=[.int x.at_,.int x.sum]:=_root_.id rfl
@[simp] theorem awJ (x:Alter):D.agg [.int x.at_,.int x.sum]=pE x:=_root_.id rfl
@[simp] theorem arZ (x:Alter):(pE x).c 0=.int x.at_:=_root_.id rfl
@[simp] theorem ar0 (x:Alter):(pE x).c 1=.int x.sum:=_root_.id rfl
def alters (l:List Alter):D:=.list (l.map pE)
@[simp] theorem at7 (l:List Alter):(alters l).l=l.map pE:=_root_.id rfl
@[simp] theorem at6 (l:List Alter):(alters l).cells=[alters l]:=_root_.id rfl
abbrev To:Ty:=.agg [.int .i64,.int .i64]
def Alter.OK (x:Alter):Prop:=aW x.at_∧aW x.sum
theorem adm {d:D}(h:DTy To d):∃x:Alter,d=pE x∧x.OK:=by
 obtain⟨ds,rfl,hs⟩:=h.agg_inv;obtain⟨d0,ds,rfl,h0,hs⟩:=hs.cons_inv;obtain⟨d1,ds,rfl,h1,hs⟩:=hs.cons_inv;obtain rfl:=hs.nil_inv;obtain⟨n0,rfl,b0⟩:=h0.i64_inv;obtain⟨n1,rfl,b1⟩:=h1.i64_inv;exact⟨⟨n0,n1⟩,rfl,⟨b0,b1⟩⟩
theorem adn {d:D}(h:DTy (.slice To) d):∃l:List Alter,d=alters l∧l.length≤maxLen∧∀y,y∈l→Alter.OK y:=by
 obtain⟨xs,rfl,hm,hx⟩:=h.slice_inv;obtain⟨l,rfl,hl⟩:=kG (enc:=pE) (P:=Alter.OK) fun x hh=>adm (hx x hh);exact⟨l,rfl,by simpa using hm,hl⟩
structure Act where
 kind:Int
 who:Int
 to:Int
 part:Int
 at_:Int
 sum:Int
 day:Int
 city:Int
 form:Int
 deriving DecidableEq,Inhabited
def jZ (x:Act):D:=.agg [.int x.kind,.int x.who,.int x.to,.int x.part,.int x.at_,.int x.sum,.int x.day,.int x.city,.int x.form]
@[simp] theorem arY (x:Act):(jZ x).cells=[.int x.kind,.int x.who,.int x.to,.int x.part,.int x.at_,.int x.sum,.int x.day,.int x.city,.int x.form]:=_root_.id rfl
@[simp] theorem awI (x:Act):D.agg [.int x.kind,.int x.who,.int x.to,.int x.part,.int x.at_,.int x.sum,.int x.day,.int x.city,.int x.form]=jZ x:=_root_.id rfl
@[simp] theorem atZ (x:Act):mB 9 (jZ x)=jZ x:=_root_.id rfl
@[simp] theorem arP (x:Act):(jZ x).c 0=.int x.kind:=_root_.id rfl
@[simp] theorem arQ (x:Act):(jZ x).c 1=.int x.who:=_root_.id rfl
@[simp] theorem arR (x:Act):(jZ x).c 2=.int x.to:=_root_.id rfl
@[simp] theorem arS (x:Act):(jZ x).c 3=.int x.part:=_root_.id rfl
@[simp] theorem arT (x:Act):(jZ x).c 4=.int x.at_:=_root_.id rfl
@[simp] theorem arU (x:Act):(jZ x).c 5=.int x.sum:=_root_.id rfl
@[simp] theorem arV (x:Act):(jZ x).c 6=.int x.day:=_root_.id rfl
@[simp] theorem arW (x:Act):(jZ x).c 7=.int x.city:=_root_.id rfl
@[simp] theorem arX (x:Act):(jZ x).c 8=.int x.form:=_root_.id rfl
def acts (l:List Act):D:=.list (l.map jZ)
@[simp] theorem atU (l:List Act):(acts l).l=l.map jZ:=_root_.id rfl
@[simp] theorem atT (l:List Act):(acts l).cells=[acts l]:=_root_.id rfl
abbrev Tn:Ty:=.agg [.int .i64,.int .i64,.int .i64,.int .i64,.int .i64,.int .i64,.int .i64,.int .i64,.int .i64]
def Act.OK (x:Act):Prop:=aW x.kind∧aW x.who∧aW x.to∧aW x.part∧aW x.at_∧aW x.sum∧aW x.day∧aW x.city∧aW x.form
theorem ada {d:D}(h:DTy Tn d):∃x:Act,d=jZ x∧x.OK:=by
 obtain⟨ds,rfl,hs⟩:=h.agg_inv;obtain⟨d0,ds,rfl,h0,hs⟩:=hs.cons_inv;obtain⟨d1,ds,rfl,h1,hs⟩:=hs.cons_inv;obtain⟨d2,ds,rfl,h2,hs⟩:=hs.cons_inv;obtain⟨d3,ds,rfl,h3,hs⟩:=hs.cons_inv;obtain⟨d4,ds,rfl,h4,hs⟩:=hs.cons_inv;obtain⟨d5,ds,rfl,h5,hs⟩:=hs.cons_inv;obtain⟨d6,ds,rfl,h6,hs⟩:=hs.cons_inv;obtain⟨d7,ds,rfl,h7,hs⟩:=hs.cons_inv;obtain⟨d8,ds,rfl,h8,hs⟩:=hs.cons_inv;obtain rfl:=hs.nil_inv;obtain⟨n0,rfl,b0⟩:=h0.i64_inv;obtain⟨n1,rfl,b1⟩:=h1.i64_inv;obtain⟨n2,rfl,b2⟩:=h2.i64_inv;obtain⟨n3,rfl,b3⟩:=h3.i64_inv;obtain⟨n4,rfl,b4⟩:=h4.i64_inv;obtain⟨n5,rfl,b5⟩:=h5.i64_inv;obtain⟨n6,rfl,b6⟩:=h6.i64_inv;obtain⟨n7,rfl,b7⟩:=h7.i64_inv;obtain⟨n8,rfl,b8⟩:=h8.i64_inv;exact⟨⟨n0,n1,n2,n3,n4,n5,n6,n7,n8⟩,rfl,⟨b0,b1,b2,b3,b4,b5,b6,b7,b8⟩⟩
theorem adb {d:D}(h:DTy (.slice Tn) d):∃l:List Act,d=acts l∧l.length≤maxLen∧∀y,y∈l→Act.OK y:=by
 obtain⟨xs,rfl,hm,hx⟩:=h.slice_inv;obtain⟨l,rfl,hl⟩:=kG (enc:=jZ) (P:=Act.OK) fun x hh=>ada (hx x hh);exact⟨l,rfl,by simpa using hm,hl⟩
structure Fact where
 kind:Int
 at_:Int
 n:Int
 deriving DecidableEq,Inhabited
def kq (x:Fact):D:=.agg [.int x.kind,.int x.at_,.int x.n]
@[simp] theorem asK (x:Fact):(kq x).cells=[.int x.kind,.int x.at_,.int x.n]:=_root_.id rfl
@[simp] theorem awP (x:Fact):D.agg [.int x.kind,.int x.at_,.int x.n]=kq x:=_root_.id rfl
@[simp] theorem asH (x:Fact):(kq x).c 0=.int x.kind:=_root_.id rfl
@[simp] theorem asI (x:Fact):(kq x).c 1=.int x.at_:=_root_.id rfl
@[simp] theorem asJ (x:Fact):(kq x).c 2=.int x.n:=_root_.id rfl
def facts (l:List Fact):D:=.list (l.map kq)
@[simp] theorem avz (l:List Fact):(facts l).l=l.map kq:=_root_.id rfl
@[simp] theorem avy (l:List Fact):(facts l).cells=[facts l]:=_root_.id rfl
abbrev Tr:Ty:=.agg [.int .i64,.int .i64,.int .i64]
def Fact.OK (x:Fact):Prop:=aW x.kind∧aW x.at_∧aW x.n
theorem af3 {d:D}(h:DTy Tr d):∃x:Fact,d=kq x∧x.OK:=by
 obtain⟨ds,rfl,hs⟩:=h.agg_inv;obtain⟨d0,ds,rfl,h0,hs⟩:=hs.cons_inv;obtain⟨d1,ds,rfl,h1,hs⟩:=hs.cons_inv;obtain⟨d2,ds,rfl,h2,hs⟩:=hs.cons_inv;obtain rfl:=hs.nil_inv;obtain⟨n0,rfl,b0⟩:=h0.i64_inv;obtain⟨n1,rfl,b1⟩:=h1.i64_inv;obtain⟨n2,rfl,b2⟩:=h2.i64_inv;exact⟨⟨n0,n1,n2⟩,rfl,⟨b0,b1,b2⟩⟩
theorem VC {d:D}(h:DTy (.slice Tr) d):∃l:List Fact,d=facts l∧l.length≤maxLen∧∀y,y∈l→Fact.OK y:=by
 obtain⟨xs,rfl,hm,hx⟩:=h.slice_inv;obtain⟨l,rfl,hl⟩:=kG (enc:=kq) (P:=Fact.OK) fun x hh=>af3 (hx x hh);exact⟨l,rfl,by simpa using hm,hl⟩
structure File where
 bill:Bill
 signs:List Sign
 alters:List Alter
 acts:List Act
 facts:List Fact
 deriving Inhabited
def dv (x:File):D:=.agg [.int x.bill.drawer,.int x.bill.drawee,.int x.bill.payee,.int x.bill.sum,.int x.bill.currency,.int x.bill.tenor.kind,.int x.bill.tenor.n,.int x.bill.tenor.unit,.int x.bill.day,.int x.bill.city,.int x.bill.pay,.int x.bill.need,.int x.bill.rate,.int x.bill.flags,.int x.bill.parts,signs x.signs,alters x.alters,acts x.acts,facts x.facts]
@[simp] theorem asR (x:File):(dv x).cells=[.int x.bill.drawer,.int x.bill.drawee,.int x.bill.payee,.int x.bill.sum,.int x.bill.currency,.int x.bill.tenor.kind,.int x.bill.tenor.n,.int x.bill.tenor.unit,.int x.bill.day,.int x.bill.city,.int x.bill.pay,.int x.bill.need,.int x.bill.rate,.int x.bill.flags,.int x.bill.parts,signs x.signs,alters x.alters,acts x.acts,facts x.facts]:=_root_.id rfl
@[simp] theorem awQ (x:File):D.agg [.int x.bill.drawer,.int x.bill.drawee,.int x.bill.payee,.int x.bill.sum,.int x.bill.currency,.int x.bill.tenor.kind,.int x.bill.tenor.n,.int x.bill.tenor.unit,.int x.bill.day,.int x.bill.city,.int x.bill.pay,.int x.bill.need,.int x.bill.rate,.int x.bill.flags,.int x.bill.parts,signs x.signs,alters x.alters,acts x.acts,facts x.facts]=dv x:=_root_.id rfl
@[simp] theorem at1 (x:File):mB 19 (dv x)=dv x:=_root_.id rfl
@[simp] theorem axa (x:File)(a0 a1 a2 a3 a4 a5 a6 a7 a8 a9 vS vT vU vV vW Bj Bk Bl Bm:D):D.agg (ff [a0,a1,a2,a3,a4,a5,a6,a7,a8,a9,vS,vT,vU,vV,vW,Bj,Bk,Bl,Bm] 0 [.int x.bill.drawer,.int x.bill.drawee,.int x.bill.payee,.int x.bill.sum,.int x.bill.currency,.int x.bill.tenor.kind,.int x.bill.tenor.n,.int x.bill.tenor.unit,.int x.bill.day,.int x.bill.city,.int x.bill.pay,.int x.bill.need,.int x.bill.rate,.int x.bill.flags,.int x.bill.parts,signs x.signs,alters x.alters,acts x.acts,facts x.facts])=dv x:=_root_.id rfl
@[simp] theorem asQ (x:File):(dv x).c 8=.int x.bill.day:=_root_.id rfl
@[simp] theorem asL (x:File):(dv x).c 14=.int x.bill.parts:=_root_.id rfl
@[simp] theorem asM (x:File):(dv x).c 15=signs x.signs:=_root_.id rfl
@[simp] theorem asN (x:File):(dv x).c 16=alters x.alters:=_root_.id rfl
@[simp] theorem asO (x:File):(dv x).c 17=acts x.acts:=_root_.id rfl
@[simp] theorem asP (x:File):(dv x).c 18=facts x.facts:=_root_.id rfl
def File.OK (x:File):Prop:=Bill.OK x.bill∧(x.signs.length≤maxLen∧∀y,y∈x.signs→Sign.OK y)∧(x.alters.length≤maxLen∧∀y,y∈x.alters→Alter.OK y)∧(x.acts.length≤maxLen∧∀y,y∈x.acts→Act.OK y)∧(x.facts.length≤maxLen∧∀y,y∈x.facts→Fact.OK y)
structure Case where
 file:File
 sign:Int
 holder:Int
 defence:Int
 due:Int
 day:Int
 deriving Inhabited
def cg (x:Case):D:=.agg [.int x.file.bill.drawer,.int x.file.bill.drawee,.int x.file.bill.payee,.int x.file.bill.sum,.int x.file.bill.currency,.int x.file.bill.tenor.kind,.int x.file.bill.tenor.n,.int x.file.bill.tenor.unit,.int x.file.bill.day,.int x.file.bill.city,.int x.file.bill.pay,.int x.file.bill.need,.int x.file.bill.rate,.int x.file.bill.flags,.int x.file.bill.parts,signs x.file.signs,alters x.file.alters,acts x.file.acts,facts x.file.facts,.int x.sign,.int x.holder,.int x.defence,.int x.due,.int x.day]
@[simp] theorem ast (x:Case):(cg x).cells=[.int x.file.bill.drawer,.int x.file.bill.drawee,.int x.file.bill.payee,.int x.file.bill.sum,.int x.file.bill.currency,.int x.file.bill.tenor.kind,.int x.file.bill.tenor.n,.int x.file.bill.tenor.unit,.int x.file.bill.day,.int x.file.bill.city,.int x.file.bill.pay,.int x.file.bill.need,.int x.file.bill.rate,.int x.file.bill.flags,.int x.file.bill.parts,signs x.file.signs,alters x.file.alters,acts x.file.acts,facts x.file.facts,.int x.sign,.int x.holder,.int x.defence,.int x.due,.int x.day]:=_root_.id rfl
@[simp] theorem awL (x:Case):D.agg [.int x.file.bill.drawer,.int x.file.bill.drawee,.int x.file.bill.payee,.int x.file.bill.sum,.int x.file.bill.currency,.int x.file.bill.tenor.kind,.int x.file.bill.tenor.n,.int x.file.bill.tenor.unit,.int x.file.bill.day,.int x.file.bill.city,.int x.file.bill.pay,.int x.file.bill.need,.int x.file.bill.rate,.int x.file.bill.flags,.int x.file.bill.parts,signs x.file.signs,alters x.file.alters,acts x.file.acts,facts x.file.facts,.int x.sign,.int x.holder,.int x.defence,.int x.due,.int x.day]=cg x:=_root_.id rfl
@[simp] theorem adl (x:Case):mB 24 (cg x)=cg x:=_root_.id rfl
@[simp] theorem anf (x:Case)(a0 a1 a2 a3 a4 a5 a6 a7 a8 a9 vS vT vU vV vW Bj Bk Bl Bm a19 a20 a21 a22 a23:D):D.agg (ff [a0,a1,a2,a3,a4,a5,a6,a7,a8,a9,vS,vT,vU,vV,vW,Bj,Bk,Bl,Bm,a19,a20,a21,a22,a23] 0 [.int x.file.bill.drawer,.int x.file.bill.drawee,.int x.file.bill.payee,.int x.file.bill.sum,.int x.file.bill.currency,.int x.file.bill.tenor.kind,.int x.file.bill.tenor.n,.int x.file.bill.tenor.unit,.int x.file.bill.day,.int x.file.bill.city,.int x.file.bill.pay,.int x.file.bill.need,.int x.file.bill.rate,.int x.file.bill.flags,.int x.file.bill.parts,signs x.file.signs,alters x.file.alters,acts x.file.acts,facts x.file.facts,.int x.sign,.int x.holder,.int x.defence,.int x.due,.int x.day])=cg x:=_root_.id rfl
@[simp] theorem ass (x:Case):(cg x).c 9=.int x.file.bill.city:=_root_.id rfl
@[simp] theorem asi (x:Case):(cg x).c 10=.int x.file.bill.pay:=_root_.id rfl
@[simp] theorem asj (x:Case):(cg x).c 15=signs x.file.signs:=_root_.id rfl
@[simp] theorem asl (x:Case):(cg x).c 18=facts x.file.facts:=_root_.id rfl
@[simp] theorem asn (x:Case):(cg x).c 19=.int x.sign:=_root_.id rfl
@[simp] theorem aso (x:Case):(cg x).c 20=.int x.holder:=_root_.id rfl
@[simp] theorem asp (x:Case):(cg x).c 21=.int x.defence:=_root_.id rfl
@[simp] theorem asq (x:Case):(cg x).c 22=.int x.due:=_root_.id rfl
@[simp] theorem asr (x:Case):(cg x).c 23=.int x.day:=_root_.id rfl
def cases(l:List Case):D:=.list (l.map cg)
abbrev aq6:Ty:=.agg [.int .i64,.int .i64,.int .i64,.int .i64,.int .i64,.int .i64,.int .i64,.int .i64,.int .i64,.int .i64,.int .i64,.int .i64,.int .i64,.int .i64,.int .i64,.slice Tz,.slice To,.slice Tn,.slice Tr,.int .i64,.int .i64,.int .i64,.int .i64,.int .i64]
def Case.OK (x:Case):Prop:=File.OK x.file∧aW x.sign∧aW x.holder∧aW x.defence∧aW x.due∧aW x.day
theorem L4 {d:D}(h:DTy aq6 d):∃x:Case,d=cg x∧x.OK:=by
 obtain⟨ds,rfl,hs⟩:=h.agg_inv;obtain⟨d0,ds,rfl,h0,hs⟩:=hs.cons_inv;obtain⟨d1,ds,rfl,h1,hs⟩:=hs.cons_inv;obtain⟨d2,ds,rfl,h2,hs⟩:=hs.cons_inv;obtain⟨d3,ds,rfl,h3,hs⟩:=hs.cons_inv;obtain⟨d4,ds,rfl,h4,hs⟩:=hs.cons_inv;obtain⟨d5,ds,rfl,h5,hs⟩:=hs.cons_inv;obtain⟨d6,ds,rfl,h6,hs⟩:=hs.cons_inv;obtain⟨d7,ds,rfl,h7,hs⟩:=hs.cons_inv;obtain⟨d8,ds,rfl,h8,hs⟩:=hs.cons_inv;obtain⟨d9,ds,rfl,h9,hs⟩:=hs.cons_inv;obtain⟨d10,ds,rfl,lf,hs⟩:=hs.cons_inv;obtain⟨d11,ds,rfl,lP,hs⟩:=hs.cons_inv;obtain⟨d12,ds,rfl,wx,hs⟩:=hs.cons_inv;obtain⟨d13,ds,rfl,h13,hs⟩:=hs.cons_inv;obtain⟨d14,ds,rfl,sH,hs⟩:=hs.cons_inv;obtain⟨d15,ds,rfl,lQ,hs⟩:=hs.cons_inv;obtain⟨d16,ds,rfl,Hy,hs⟩:=hs.cons_inv;obtain⟨d17,ds,rfl,sI,hs⟩:=hs.cons_inv;obtain⟨d18,ds,rfl,q7,hs⟩:=hs.cons_inv;obtain⟨d19,ds,rfl,Hz,hs⟩:=hs.cons_inv;obtain⟨d20,ds,rfl,V6,hs⟩:=hs.cons_inv;obtain⟨d21,ds,rfl,h21,hs⟩:=hs.cons_inv;obtain⟨d22,ds,rfl,h22,hs⟩:=hs.cons_inv;obtain⟨d23,ds,rfl,h23,hs⟩:=hs.cons_inv;obtain rfl:=hs.nil_inv;obtain⟨n0,rfl,b0⟩:=h0.i64_inv;obtain⟨n1,rfl,b1⟩:=h1.i64_inv;obtain⟨n2,rfl,b2⟩:=h2.i64_inv;obtain⟨n3,rfl,b3⟩:=h3.i64_inv;obtain⟨n4,rfl,b4⟩:=h4.i64_inv;obtain⟨n5,rfl,b5⟩:=h5.i64_inv;obtain⟨n6,rfl,b6⟩:=h6.i64_inv;obtain⟨n7,rfl,b7⟩:=h7.i64_inv;obtain⟨n8,rfl,b8⟩:=h8.i64_inv;obtain⟨n9,rfl,b9⟩:=h9.i64_inv;obtain⟨n10,rfl,b10⟩:=lf.i64_inv;obtain⟨n11,rfl,b11⟩:=lP.i64_inv;obtain⟨n12,rfl,b12⟩:=wx.i64_inv;obtain⟨n13,rfl,b13⟩:=h13.i64_inv;obtain⟨n14,rfl,b14⟩:=sH.i64_inv;obtain⟨n15,rfl,b15,c15⟩:=ao4 lQ;obtain⟨n16,rfl,b16,c16⟩:=adn Hy;obtain⟨n17,rfl,b17,c17⟩:=adb sI;obtain⟨n18,rfl,b18,nu⟩:=VC q7;obtain⟨n19,rfl,b19⟩:=Hz.i64_inv;obtain⟨n20,rfl,b20⟩:=V6.i64_inv;obtain⟨n21,rfl,b21⟩:=h21.i64_inv;obtain⟨n22,rfl,b22⟩:=h22.i64_inv;obtain⟨n23,rfl,b23⟩:=h23.i64_inv;exact⟨⟨⟨⟨n0,n1,n2,n3,n4,⟨n5,n6,n7⟩,n8,n9,n10,n11,n12,n13,n14⟩,n15,n16,n17,n18⟩,n19,n20,n21,n22,n23⟩,rfl,⟨⟨⟨b0,b1,b2,b3,b4,⟨b5,b6,b7⟩,b8,b9,b10,b11,b12,b13,b14⟩,⟨b15,c15⟩,⟨b16,c16⟩,⟨b17,c17⟩,⟨b18,nu⟩⟩,b19,b20,b21,b22,b23⟩⟩
structure Cell where
 known:Bool
 n:Int
 deriving DecidableEq,Inhabited
def dk (x:Cell):D:=.agg [.bool x.known,.int x.n]
@[simp] theorem asw (x:Cell):(dk x).cells=[.bool x.known,.int x.n]:=_root_.id rfl
@[simp] theorem awM (x:Cell):D.agg [.bool x.known,.int x.n]=dk x:=_root_.id rfl
@[simp] theorem asu (x:Cell):(dk x).c 0=.bool x.known:=_root_.id rfl
@[simp] theorem asv (x:Cell):(dk x).c 1=.int x.n:=_root_.id rfl
def cells (l:List Cell):D:=.list (l.map dk)
@[simp] theorem auo (l:List Cell):(cells l).l=l.map dk:=_root_.id rfl
@[simp] theorem aun (l:List Cell):(cells l).cells=[cells l]:=_root_.id rfl
structure Said where
 cell:Cell
 order:Int
 path:List Int
 err:Int
 deriving Inhabited
def Mp (x:Said):D:=.agg [.bool x.cell.known,.int x.cell.n,.int x.order,ints x.path,.int x.err]
@[simp] theorem ato (x:Said):(Mp x).cells=[.bool x.cell.known,.int x.cell.n,.int x.order,ints x.path,.int x.err]:=_root_.id rfl
@[simp] theorem axL (a0 x0:D):ff [a0] 0 [x0]=[x0]:=_root_.id rfl
@[simp] theorem axM (a0 a1 x0 x1:D):ff [a0,a1] 0 [x0,x1]=[x0,x1]:=_root_.id rfl
@[simp] theorem axN (a0 a1 a2 x0 x1 x2:D):ff [a0,a1,a2] 0 [x0,x1,x2]=[x0,x1,x2]:=_root_.id rfl
@[simp] theorem axO (a0 a1 a2 a3 x0 x1 x2 x3:D):ff [a0,a1,a2,a3] 0 [x0,x1,x2,x3]=[x0,x1,x2,x3]:=_root_.id rfl
@[simp] theorem axP (a0 a1 a2 a3 a4 x0 x1 x2 x3 x4:D):ff [a0,a1,a2,a3,a4] 0 [x0,x1,x2,x3,x4]=[x0,x1,x2,x3,x4]:=_root_.id rfl
@[simp] theorem axQ (a0 a1 a2 a3 a4 a5 x0 x1 x2 x3 x4 x5:D):ff [a0,a1,a2,a3,a4,a5] 0 [x0,x1,x2,x3,x4,x5]=[x0,x1,x2,x3,x4,x5]:=_root_.id rfl
@[simp] theorem axR (a0 a1 a2 a3 a4 a5 a6 a7 a8 x0 x1 x2 x3 x4 x5 x6 x7 x8:D):ff [a0,a1,a2,a3,a4,a5,a6,a7,a8] 0 [x0,x1,x2,x3,x4,x5,x6,x7,x8]=[x0,x1,x2,x3,x4,x5,x6,x7,x8]:=_root_.id rfl
end Rm
