/-
  Shared texts of this claim.
-/
import Derived.Test.YtehiffddpebpkaaGreatDoorKAJ
import Derived.Test.YtehiffddpebpkaaGreatDoorProg
set_option linter.unusedSimpArgs false
set_option linter.unusedVariables false
namespace Rm
open Go Cx
abbrev str (b:ByteArray):D:=.v (.string b)
def strs (l:List ByteArray):D:=.list (l.map str)
@[simp] theorem aa7 (l:List ByteArray):(strs l).l=l.map str:=_root_.id rfl
theorem str_inv {d:D} (h:DTy .str d):∃b,d=str b:=by
 cases h with
 |str b=>exact⟨b,rfl⟩
 |other t d h=>exact h.elim
theorem YV {d:D} (h:DTy (.slice .str) d):∃l:List ByteArray,d=strs l∧l.length≤maxLen:=by
 obtain⟨xs,rfl,hm,hx⟩:=h.slice_inv
 obtain⟨l,rfl,hl⟩:=cl (enc:=str) (P:=fun _=>True) fun x hh=>(str_inv (hx x hh)).imp fun b hb=>⟨hb,trivial⟩
 exact⟨l,rfl,by simpa using hm⟩
@[simp] theorem aef (t:Tm):(iM t).cells=[.int t.op,.int t.n,.list (t.args.map iM)]:=by rw[EP];rfl
@[simp] theorem agS (t:Tm):D.agg [.int t.op,.int t.n,.list (t.args.map iM)]=iM t:=(EP t).symm
@[simp] theorem agO (t:Tm):(iM t).c 0=.int t.op:=by rw[EP];rfl
@[simp] theorem agQ (t:Tm):(iM t).c 1=.int t.n:=by rw[EP];rfl
@[simp] theorem agM (t:Tm):(iM t).c 2=.list (t.args.map iM):=by rw[EP];rfl
structure City where
 name:ByteArray
 order:Int
 currency:Int
 rest:List Int
 feasts:List Int
 shut:List Int
 deriving Inhabited
def bD (x:City):D:=.agg [str x.name,.int x.order,.int x.currency,ints x.rest,ints x.feasts,ints x.shut]
@[simp] theorem abc (x:City):(bD x).cells=[str x.name,.int x.order,.int x.currency,ints x.rest,ints x.feasts,ints x.shut]:=_root_.id rfl
@[simp] theorem aeg (x:City):D.agg [str x.name,.int x.order,.int x.currency,ints x.rest,ints x.feasts,ints x.shut]=bD x:=_root_.id rfl
@[simp] theorem acj (x:City):uQ 6 (bD x)=bD x:=_root_.id rfl
@[simp] theorem aeN (x:City):(bD x).c 0=str x.name:=_root_.id rfl
@[simp] theorem afw (x:City):(bD x).c 1=.int x.order:=_root_.id rfl
@[simp] theorem ae8 (x:City):(bD x).c 2=.int x.currency:=_root_.id rfl
@[simp] theorem afi (x:City):(bD x).c 3=ints x.rest:=_root_.id rfl
@[simp] theorem aeU (x:City):(bD x).c 4=ints x.feasts:=_root_.id rfl
@[simp] theorem afg (x:City):(bD x).c 5=ints x.shut:=_root_.id rfl
def vY (l:List City):D:=.list (l.map bD)
@[simp] theorem afh (l:List City):(vY l).l=l.map bD:=_root_.id rfl
abbrev UT:Ty:=.agg [.str,.int .i64,.int .i64,.slice (.int .i64),.slice (.int .i64),.slice (.int .i64)]
def City.OK (x:City):Prop:=I64 x.order∧I64 x.currency∧(x.rest.length≤maxLen∧∀y,y∈x.rest→I64 y)∧(x.feasts.length≤maxLen∧∀y,y∈x.feasts→I64 y)∧(x.shut.length≤maxLen∧∀y,y∈x.shut→I64 y)
theorem YK {d:D} (h:DTy UT d):∃x:City,d=bD x∧x.OK:=by
 obtain⟨ds,rfl,hs⟩:=h.agg_inv
 obtain⟨d0,ds,rfl,h0,hs⟩:=hs.cons_inv
 obtain⟨d1,ds,rfl,h1,hs⟩:=hs.cons_inv
 obtain⟨d2,ds,rfl,h2,hs⟩:=hs.cons_inv
 obtain⟨d3,ds,rfl,h3,hs⟩:=hs.cons_inv
 obtain⟨d4,ds,rfl,h4,hs⟩:=hs.cons_inv
 obtain⟨d5,ds,rfl,h5,hs⟩:=hs.cons_inv
 obtain rfl:=hs.nil_inv
 obtain⟨n0,rfl⟩:=str_inv h0
 obtain⟨n1,rfl,b1⟩:=h1.i64_inv
 obtain⟨n2,rfl,b2⟩:=h2.i64_inv
 obtain⟨n3,rfl,b3,c3⟩:=h3.ints_inv
 obtain⟨n4,rfl,b4,c4⟩:=h4.ints_inv
 obtain⟨n5,rfl,b5,c5⟩:=h5.ints_inv
 exact⟨⟨n0,n1,n2,n3,n4,n5⟩,rfl,⟨b1,b2,⟨b3,c3⟩,⟨b4,c4⟩,⟨b5,c5⟩⟩⟩
theorem Xe {d:D} (h:DTy (.slice UT) d):∃l:List City,d=vY l∧l.length≤maxLen∧∀y,y∈l→City.OK y:=by
 obtain⟨xs,rfl,hm,hx⟩:=h.slice_inv
 obtain⟨l,rfl,hl⟩:=cl (enc:=bD) (P:=City.OK) fun x hh=>YK (hx x hh)
 exact⟨l,rfl,by simpa using hm,hl⟩
structure Firm where
 name:ByteArray
 city:Int
 group:Int
 deriving Inhabited
def qm (x:Firm):D:=.agg [str x.name,.int x.city,.int x.group]
@[simp] theorem abD (x:Firm):(qm x).cells=[str x.name,.int x.city,.int x.group]:=_root_.id rfl
@[simp] theorem afr (x:Firm):D.agg [str x.name,.int x.city,.int x.group]=qm x:=_root_.id rfl
@[simp] theorem afv (x:Firm):(qm x).c 0=str x.name:=_root_.id rfl
@[simp] theorem aeT (x:Firm):(qm x).c 1=.int x.city:=_root_.id rfl
@[simp] theorem afn (x:Firm):(qm x).c 2=.int x.group:=_root_.id rfl
def firms (l:List Firm):D:=.list (l.map qm)
@[simp] theorem afq (l:List Firm):(firms l).l=l.map qm:=_root_.id rfl
abbrev U9:Ty:=.agg [.str,.int .i64,.int .i64]
def Firm.OK (x:Firm):Prop:=I64 x.city∧I64 x.group
theorem YG {d:D} (h:DTy U9 d):∃x:Firm,d=qm x∧x.OK:=by
 obtain⟨ds,rfl,hs⟩:=h.agg_inv
 obtain⟨d0,ds,rfl,h0,hs⟩:=hs.cons_inv
 obtain⟨d1,ds,rfl,h1,hs⟩:=hs.cons_inv
 obtain⟨d2,ds,rfl,h2,hs⟩:=hs.cons_inv
 obtain rfl:=hs.nil_inv
 obtain⟨n0,rfl⟩:=str_inv h0
 obtain⟨n1,rfl,b1⟩:=h1.i64_inv
 obtain⟨n2,rfl,b2⟩:=h2.i64_inv
 exact⟨⟨n0,n1,n2⟩,rfl,⟨b1,b2⟩⟩
theorem Xp {d:D} (h:DTy (.slice U9) d):∃l:List Firm,d=firms l∧l.length≤maxLen∧∀y,y∈l→Firm.OK y:=by
 obtain⟨xs,rfl,hm,hx⟩:=h.slice_inv
 obtain⟨l,rfl,hl⟩:=cl (enc:=qm) (P:=Firm.OK) fun x hh=>YG (hx x hh)
 exact⟨l,rfl,by simpa using hm,hl⟩
structure Group where
 grade:Int
 deriving DecidableEq,Inhabited
def qY (x:Group):D:=.agg [.int x.grade]
@[simp] theorem aam (x:Group):(qY x).cells=[.int x.grade]:=_root_.id rfl
@[simp] theorem ad7 (x:Group):D.agg [.int x.grade]=qY x:=_root_.id rfl
@[simp] theorem adW (x:Group):(qY x).c 0=.int x.grade:=_root_.id rfl
def groups (l:List Group):D:=.list (l.map qY)
@[simp] theorem acK (l:List Group):(groups l).l=l.map qY:=_root_.id rfl
abbrev Qr:Ty:=.agg [.int .i64]
def Group.OK (x:Group):Prop:=I64 x.grade
theorem WY {d:D} (h:DTy Qr d):∃x:Group,d=qY x∧x.OK:=by
 obtain⟨ds,rfl,hs⟩:=h.agg_inv
 obtain⟨d0,ds,rfl,h0,hs⟩:=hs.cons_inv
 obtain rfl:=hs.nil_inv
 obtain⟨n0,rfl,b0⟩:=h0.i64_inv
 exact⟨⟨n0⟩,rfl,b0⟩
theorem Vy {d:D} (h:DTy (.slice Qr) d):∃l:List Group,d=groups l∧l.length≤maxLen∧∀y,y∈l→Group.OK y:=by
 obtain⟨xs,rfl,hm,hx⟩:=h.slice_inv
 obtain⟨l,rfl,hl⟩:=cl (enc:=qY) (P:=Group.OK) fun x hh=>WY (hx x hh)
 exact⟨l,rfl,by simpa using hm,hl⟩
structure Usance where
 fr:Int
 to:Int
 days:Int
 deriving DecidableEq,Inhabited
def gK (x:Usance):D:=.agg [.int x.fr,.int x.to,.int x.days]
@[simp] theorem ZS (x:Usance):(gK x).cells=[.int x.fr,.int x.to,.int x.days]:=_root_.id rfl
@[simp] theorem abT (x:Usance):D.agg [.int x.fr,.int x.to,.int x.days]=gK x:=_root_.id rfl
@[simp] theorem abO (x:Usance):(gK x).c 0=.int x.fr:=_root_.id rfl
@[simp] theorem acq (x:Usance):(gK x).c 1=.int x.to:=_root_.id rfl
@[simp] theorem abJ (x:Usance):(gK x).c 2=.int x.days:=_root_.id rfl
def usances (l:List Usance):D:=.list (l.map gK)
@[simp] theorem ach (l:List Usance):(usances l).l=l.map gK:=_root_.id rfl
abbrev MZ:Ty:=.agg [.int .i64,.int .i64,.int .i64]
def Usance.OK (x:Usance):Prop:=I64 x.fr∧I64 x.to∧I64 x.days
theorem UD {d:D} (h:DTy MZ d):∃x:Usance,d=gK x∧x.OK:=by
 obtain⟨ds,rfl,hs⟩:=h.agg_inv
 obtain⟨d0,ds,rfl,h0,hs⟩:=hs.cons_inv
 obtain⟨d1,ds,rfl,h1,hs⟩:=hs.cons_inv
 obtain⟨d2,ds,rfl,h2,hs⟩:=hs.cons_inv
 obtain rfl:=hs.nil_inv
 obtain⟨n0,rfl,b0⟩:=h0.i64_inv
 obtain⟨n1,rfl,b1⟩:=h1.i64_inv
 obtain⟨n2,rfl,b2⟩:=h2.i64_inv
 exact⟨⟨n0,n1,n2⟩,rfl,⟨b0,b1,b2⟩⟩
theorem SM {d:D} (h:DTy (.slice MZ) d):∃l:List Usance,d=usances l∧l.length≤maxLen∧∀y,y∈l→Usance.OK y:=by
 obtain⟨xs,rfl,hm,hx⟩:=h.slice_inv
 obtain⟨l,rfl,hl⟩:=cl (enc:=gK) (P:=Usance.OK) fun x hh=>UD (hx x hh)
 exact⟨l,rfl,by simpa using hm,hl⟩
structure Rate where
 fr:Int
 to:Int
 num:Int
 den:Int
 since:Int
 deriving DecidableEq,Inhabited
def lJ (x:Rate):D:=.agg [.int x.fr,.int x.to,.int x.num,.int x.den,.int x.since]
@[simp] theorem abp (x:Rate):(lJ x).cells=[.int x.fr,.int x.to,.int x.num,.int x.den,.int x.since]:=_root_.id rfl
@[simp] theorem afc (x:Rate):D.agg [.int x.fr,.int x.to,.int x.num,.int x.den,.int x.since]=lJ x:=_root_.id rfl
@[simp] theorem ae6 (x:Rate):(lJ x).c 0=.int x.fr:=_root_.id rfl
@[simp] theorem afx (x:Rate):(lJ x).c 1=.int x.to:=_root_.id rfl
@[simp] theorem ae1 (x:Rate):(lJ x).c 2=.int x.num:=_root_.id rfl
@[simp] theorem ae4 (x:Rate):(lJ x).c 3=.int x.den:=_root_.id rfl
@[simp] theorem aeY (x:Rate):(lJ x).c 4=.int x.since:=_root_.id rfl
def rates (l:List Rate):D:=.list (l.map lJ)
@[simp] theorem aeZ (l:List Rate):(rates l).l=l.map lJ:=_root_.id rfl
abbrev VT:Ty:=.agg [.int .i64,.int .i64,.int .i64,.int .i64,.int .i64]
def Rate.OK (x:Rate):Prop:=I64 x.fr∧I64 x.to∧I64 x.num∧I64 x.den∧I64 x.since
theorem X8 {d:D} (h:DTy VT d):∃x:Rate,d=lJ x∧x.OK:=by
 obtain⟨ds,rfl,hs⟩:=h.agg_inv
 obtain⟨d0,ds,rfl,h0,hs⟩:=hs.cons_inv
 obtain⟨d1,ds,rfl,h1,hs⟩:=hs.cons_inv
 obtain⟨d2,ds,rfl,h2,hs⟩:=hs.cons_inv
 obtain⟨d3,ds,rfl,h3,hs⟩:=hs.cons_inv
 obtain⟨d4,ds,rfl,h4,hs⟩:=hs.cons_inv
 obtain rfl:=hs.nil_inv
 obtain⟨n0,rfl,b0⟩:=h0.i64_inv
 obtain⟨n1,rfl,b1⟩:=h1.i64_inv
 obtain⟨n2,rfl,b2⟩:=h2.i64_inv
 obtain⟨n3,rfl,b3⟩:=h3.i64_inv
 obtain⟨n4,rfl,b4⟩:=h4.i64_inv
 exact⟨⟨n0,n1,n2,n3,n4⟩,rfl,⟨b0,b1,b2,b3,b4⟩⟩
theorem W2 {d:D} (h:DTy (.slice VT) d):∃l:List Rate,d=rates l∧l.length≤maxLen∧∀y,y∈l→Rate.OK y:=by
 obtain⟨xs,rfl,hm,hx⟩:=h.slice_inv
 obtain⟨l,rfl,hl⟩:=cl (enc:=lJ) (P:=Rate.OK) fun x hh=>X8 (hx x hh)
 exact⟨l,rfl,by simpa using hm,hl⟩
structure Halt where
 order:Int
 fr:Int
 to:Int
 deriving DecidableEq,Inhabited
def qp (x:Halt):D:=.agg [.int x.order,.int x.fr,.int x.to]
@[simp] theorem aa3 (x:Halt):(qp x).cells=[.int x.order,.int x.fr,.int x.to]:=_root_.id rfl
@[simp] theorem aey (x:Halt):D.agg [.int x.order,.int x.fr,.int x.to]=qp x:=_root_.id rfl
@[simp] theorem afl (x:Halt):(qp x).c 0=.int x.order:=_root_.id rfl
@[simp] theorem afB (x:Halt):(qp x).c 1=.int x.fr:=_root_.id rfl
@[simp] theorem afy (x:Halt):(qp x).c 2=.int x.to:=_root_.id rfl
def halts (l:List Halt):D:=.list (l.map qp)
@[simp] theorem ael (l:List Halt):(halts l).l=l.map qp:=_root_.id rfl
abbrev Vk:Ty:=.agg [.int .i64,.int .i64,.int .i64]
def Halt.OK (x:Halt):Prop:=I64 x.order∧I64 x.fr∧I64 x.to
theorem Zj {d:D} (h:DTy Vk d):∃x:Halt,d=qp x∧x.OK:=by
 obtain⟨ds,rfl,hs⟩:=h.agg_inv
 obtain⟨d0,ds,rfl,h0,hs⟩:=hs.cons_inv
 obtain⟨d1,ds,rfl,h1,hs⟩:=hs.cons_inv
 obtain⟨d2,ds,rfl,h2,hs⟩:=hs.cons_inv
 obtain rfl:=hs.nil_inv
 obtain⟨n0,rfl,b0⟩:=h0.i64_inv
 obtain⟨n1,rfl,b1⟩:=h1.i64_inv
 obtain⟨n2,rfl,b2⟩:=h2.i64_inv
 exact⟨⟨n0,n1,n2⟩,rfl,⟨b0,b1,b2⟩⟩
theorem W4 {d:D} (h:DTy (.slice Vk) d):∃l:List Halt,d=halts l∧l.length≤maxLen∧∀y,y∈l→Halt.OK y:=by
 obtain⟨xs,rfl,hm,hx⟩:=h.slice_inv
 obtain⟨l,rfl,hl⟩:=cl (enc:=qp) (P:=Halt.OK) fun x hh=>Zj (hx x hh)
 exact⟨l,rfl,by simpa using hm,hl⟩
structure Choice where
 ask:Int
 by_:Int
 whole:Bool
 deriving DecidableEq,Inhabited
def kF (x:Choice):D:=.agg [.int x.ask,.int x.by_,.bool x.whole]
@[simp] theorem aaf (x:Choice):(kF x).cells=[.int x.ask,.int x.by_,.bool x.whole]:=_root_.id rfl
@[simp] theorem abR (x:Choice):D.agg [.int x.ask,.int x.by_,.bool x.whole]=kF x:=_root_.id rfl
@[simp] theorem ab0 (x:Choice):(kF x).c 0=.int x.ask:=_root_.id rfl
@[simp] theorem ab8 (x:Choice):(kF x).c 1=.int x.by_:=_root_.id rfl
def choices (l:List Choice):D:=.list (l.map kF)
@[simp] theorem acp (l:List Choice):(choices l).l=l.map kF:=_root_.id rfl
abbrev KE:Ty:=.agg [.int .i64,.int .i64,.bool]
def Choice.OK (x:Choice):Prop:=I64 x.ask∧I64 x.by_
theorem Vg {d:D} (h:DTy KE d):∃x:Choice,d=kF x∧x.OK:=by
 obtain⟨ds,rfl,hs⟩:=h.agg_inv
 obtain⟨d0,ds,rfl,h0,hs⟩:=hs.cons_inv
 obtain⟨d1,ds,rfl,h1,hs⟩:=hs.cons_inv
 obtain⟨d2,ds,rfl,h2,hs⟩:=hs.cons_inv
 obtain rfl:=hs.nil_inv
 obtain⟨n0,rfl,b0⟩:=h0.i64_inv
 obtain⟨n1,rfl,b1⟩:=h1.i64_inv
 obtain⟨n2,rfl⟩:=h2.bool_inv
 exact⟨⟨n0,n1,n2⟩,rfl,⟨b0,b1⟩⟩
theorem SS {d:D} (h:DTy (.slice KE) d):∃l:List Choice,d=choices l∧l.length≤maxLen∧∀y,y∈l→Choice.OK y:=by
 obtain⟨xs,rfl,hm,hx⟩:=h.slice_inv
 obtain⟨l,rfl,hl⟩:=cl (enc:=kF) (P:=Choice.OK) fun x hh=>Vg (hx x hh)
 exact⟨l,rfl,by simpa using hm,hl⟩
structure Rule where
 ask:Int
 term:Tm
 deriving Inhabited
def pR (x:Rule):D:=.agg [.int x.ask,.int x.term.op,.int x.term.n,.list (x.term.args.map iM)]
@[simp] theorem abh (x:Rule):(pR x).cells=[.int x.ask,.int x.term.op,.int x.term.n,.list (x.term.args.map iM)]:=_root_.id rfl
@[simp] theorem aeE (x:Rule):D.agg [.int x.ask,.int x.term.op,.int x.term.n,.list (x.term.args.map iM)]=pR x:=_root_.id rfl
@[simp] theorem afC (x:Rule):(pR x).c 0=.int x.ask:=_root_.id rfl
def rules (l:List Rule):D:=.list (l.map pR)
@[simp] theorem aem (l:List Rule):(rules l).l=l.map pR:=_root_.id rfl
abbrev VR:Ty:=.agg [.int .i64,.int .i64,.int .i64,.slice .trm]
def Rule.OK (x:Rule):Prop:=I64 x.ask∧Tm.OK x.term
theorem Ye {d:D} (h:DTy VR d):∃x:Rule,d=pR x∧x.OK:=by
 obtain⟨ds,rfl,hs⟩:=h.agg_inv
 obtain⟨d0,ds,rfl,h0,hs⟩:=hs.cons_inv
 obtain⟨d1,ds,rfl,h1,hs⟩:=hs.cons_inv
 obtain⟨d2,ds,rfl,h2,hs⟩:=hs.cons_inv
 obtain⟨d3,ds,rfl,h3,hs⟩:=hs.cons_inv
 obtain rfl:=hs.nil_inv
 obtain⟨n0,rfl,b0⟩:=h0.i64_inv
 obtain⟨n1,rfl,b1⟩:=h1.i64_inv
 obtain⟨n2,rfl,b2⟩:=h2.i64_inv
 obtain⟨n3,rfl,b3,c3⟩:=h3.trms_inv
 exact⟨⟨n0,.mk n1 n2 n3⟩,rfl,⟨b0,.mk _ _ _ b1 b2 b3 c3⟩⟩
theorem XG {d:D} (h:DTy (.slice VR) d):∃l:List Rule,d=rules l∧l.length≤maxLen∧∀y,y∈l→Rule.OK y:=by
 obtain⟨xs,rfl,hm,hx⟩:=h.slice_inv
 obtain⟨l,rfl,hl⟩:=cl (enc:=pR) (P:=Rule.OK) fun x hh=>Ye (hx x hh)
 exact⟨l,rfl,by simpa using hm,hl⟩
structure Order where
 name:ByteArray
 accepts:Bool
 choices:List Choice
 rules:List Rule
 deriving Inhabited
def bM (x:Order):D:=.agg [str x.name,.bool x.accepts,choices x.choices,rules x.rules]
@[simp] theorem aas (x:Order):(bM x).cells=[str x.name,.bool x.accepts,choices x.choices,rules x.rules]:=_root_.id rfl
@[simp] theorem ad2 (x:Order):D.agg [str x.name,.bool x.accepts,choices x.choices,rules x.rules]=bM x:=_root_.id rfl
@[simp] theorem aaX (x:Order):uQ 4 (bM x)=bM x:=_root_.id rfl
@[simp] theorem adU (x:Order):(bM x).c 0=str x.name:=_root_.id rfl
@[simp] theorem ad4 (x:Order):(bM x).c 1=.bool x.accepts:=_root_.id rfl
@[simp] theorem adl (x:Order):(bM x).c 2=choices x.choices:=_root_.id rfl
@[simp] theorem adz (x:Order):(bM x).c 3=rules x.rules:=_root_.id rfl
def orders (l:List Order):D:=.list (l.map bM)
@[simp] theorem ads (l:List Order):(orders l).l=l.map bM:=_root_.id rfl
abbrev Q5:Ty:=.agg [.str,.bool,.slice KE,.slice VR]
def Order.OK (x:Order):Prop:=(x.choices.length≤maxLen∧∀y,y∈x.choices→Choice.OK y)∧(x.rules.length≤maxLen∧∀y,y∈x.rules→Rule.OK y)
theorem WN {d:D} (h:DTy Q5 d):∃x:Order,d=bM x∧x.OK:=by
 obtain⟨ds,rfl,hs⟩:=h.agg_inv
 obtain⟨d0,ds,rfl,h0,hs⟩:=hs.cons_inv
 obtain⟨d1,ds,rfl,h1,hs⟩:=hs.cons_inv
 obtain⟨d2,ds,rfl,h2,hs⟩:=hs.cons_inv
 obtain⟨d3,ds,rfl,h3,hs⟩:=hs.cons_inv
 obtain rfl:=hs.nil_inv
 obtain⟨n0,rfl⟩:=str_inv h0
 obtain⟨n1,rfl⟩:=h1.bool_inv
 obtain⟨n2,rfl,b2,c2⟩:=SS h2
 obtain⟨n3,rfl,b3,c3⟩:=XG h3
 exact⟨⟨n0,n1,n2,n3⟩,rfl,⟨⟨b2,c2⟩,⟨b3,c3⟩⟩⟩
theorem Ut {d:D} (h:DTy (.slice Q5) d):∃l:List Order,d=orders l∧l.length≤maxLen∧∀y,y∈l→Order.OK y:=by
 obtain⟨xs,rfl,hm,hx⟩:=h.slice_inv
 obtain⟨l,rfl,hl⟩:=cl (enc:=bM) (P:=Order.OK) fun x hh=>WN (hx x hh)
 exact⟨l,rfl,by simpa using hm,hl⟩
structure Realm where
 currencies:List ByteArray
 cities:List City
 groups:List Group
 firms:List Firm
 orders:List Order
 usances:List Usance
 rates:List Rate
 halts:List Halt
 deriving Inhabited
def aw (x:Realm):D:=.agg [strs x.currencies,vY x.cities,groups x.groups,firms x.firms,orders x.orders,usances x.usances,rates x.rates,halts x.halts]
@[simp] theorem aat (x:Realm):(aw x).cells=[strs x.currencies,vY x.cities,groups x.groups,firms x.firms,orders x.orders,usances x.usances,rates x.rates,halts x.halts]:=_root_.id rfl
@[simp] theorem adS (x:Realm):D.agg [strs x.currencies,vY x.cities,groups x.groups,firms x.firms,orders x.orders,usances x.usances,rates x.rates,halts x.halts]=aw x:=_root_.id rfl
@[simp] theorem aaS (x:Realm):uQ 8 (aw x)=aw x:=_root_.id rfl
@[simp] theorem abF (x:Realm) (a0 a1 a2 a3 a4 a5 a6 a7:D):D.agg (aX [a0,a1,a2,a3,a4,a5,a6,a7] 0 [strs x.currencies,vY x.cities,groups x.groups,firms x.firms,orders x.orders,usances x.usances,rates x.rates,halts x.halts])=aw x:=_root_.id rfl
@[simp] theorem ac0 (x:Realm):(aw x).c 0=strs x.currencies:=_root_.id rfl
@[simp] theorem ac5 (x:Realm):(aw x).c 1=vY x.cities:=_root_.id rfl
@[simp] theorem ac2 (x:Realm):(aw x).c 2=groups x.groups:=_root_.id rfl
@[simp] theorem acv (x:Realm):(aw x).c 3=firms x.firms:=_root_.id rfl
@[simp] theorem acP (x:Realm):(aw x).c 4=orders x.orders:=_root_.id rfl
@[simp] theorem acH (x:Realm):(aw x).c 5=usances x.usances:=_root_.id rfl
@[simp] theorem adL (x:Realm):(aw x).c 6=rates x.rates:=_root_.id rfl
@[simp] theorem adA (x:Realm):(aw x).c 7=halts x.halts:=_root_.id rfl
abbrev ZM:Ty:=.agg [.slice .str,.slice UT,.slice Qr,.slice U9,.slice Q5,.slice MZ,.slice VT,.slice Vk]
def Realm.OK (x:Realm):Prop:=x.currencies.length≤maxLen∧(x.cities.length≤maxLen∧∀y,y∈x.cities→City.OK y)∧(x.groups.length≤maxLen∧∀y,y∈x.groups→Group.OK y)∧(x.firms.length≤maxLen∧∀y,y∈x.firms→Firm.OK y)∧(x.orders.length≤maxLen∧∀y,y∈x.orders→Order.OK y)∧(x.usances.length≤maxLen∧∀y,y∈x.usances→Usance.OK y)∧(x.rates.length≤maxLen∧∀y,y∈x.rates→Rate.OK y)∧(x.halts.length≤maxLen∧∀y,y∈x.halts→Halt.OK y)
theorem WE {d:D} (h:DTy ZM d):∃x:Realm,d=aw x∧x.OK:=by
 obtain⟨ds,rfl,hs⟩:=h.agg_inv
 obtain⟨d0,ds,rfl,h0,hs⟩:=hs.cons_inv
 obtain⟨d1,ds,rfl,h1,hs⟩:=hs.cons_inv
 obtain⟨d2,ds,rfl,h2,hs⟩:=hs.cons_inv
 obtain⟨d3,ds,rfl,h3,hs⟩:=hs.cons_inv
 obtain⟨d4,ds,rfl,h4,hs⟩:=hs.cons_inv
 obtain⟨d5,ds,rfl,h5,hs⟩:=hs.cons_inv
 obtain⟨d6,ds,rfl,h6,hs⟩:=hs.cons_inv
 obtain⟨d7,ds,rfl,h7,hs⟩:=hs.cons_inv
 obtain rfl:=hs.nil_inv
 obtain⟨n0,rfl,b0⟩:=YV h0
 obtain⟨n1,rfl,b1,c1⟩:=Xe h1
 obtain⟨n2,rfl,b2,c2⟩:=Vy h2
 obtain⟨n3,rfl,b3,c3⟩:=Xp h3
 obtain⟨n4,rfl,b4,c4⟩:=Ut h4
 obtain⟨n5,rfl,b5,c5⟩:=SM h5
 obtain⟨n6,rfl,b6,c6⟩:=W2 h6
 obtain⟨n7,rfl,b7,c7⟩:=W4 h7
 exact⟨⟨n0,n1,n2,n3,n4,n5,n6,n7⟩,rfl,⟨b0,⟨b1,c1⟩,⟨b2,c2⟩,⟨b3,c3⟩,⟨b4,c4⟩,⟨b5,c5⟩,⟨b6,c6⟩,⟨b7,c7⟩⟩⟩
structure Tenor where
 kind:Int
 n:Int
 unit:Int
 deriving DecidableEq,Inhabited
def jt (x:Tenor):D:=.agg [.int x.kind,.int x.n,.int x.unit]
@[simp] theorem aaj (x:Tenor):(jt x).cells=[.int x.kind,.int x.n,.int x.unit]:=_root_.id rfl
@[simp] theorem acN (x:Tenor):D.agg [.int x.kind,.int x.n,.int x.unit]=jt x:=_root_.id rfl
@[simp] theorem acL (x:Tenor):(jt x).c 0=.int x.kind:=_root_.id rfl
@[simp] theorem adJ (x:Tenor):(jt x).c 1=.int x.n:=_root_.id rfl
@[simp] theorem acE (x:Tenor):(jt x).c 2=.int x.unit:=_root_.id rfl
def Tenor.OK (x:Tenor):Prop:=I64 x.kind∧I64 x.n∧I64 x.unit
structure Bill where
 drawer:Int
 drawee:Int
 payee:Int
 sum:Int
 currency:Int
 tenor:Tenor
 day:Int
 city:Int
 pay:Int
 need:Int
 rate:Int
 flags:Int
 parts:Int
 deriving DecidableEq,Inhabited
def bu (x:Bill):D:=.agg [.int x.drawer,.int x.drawee,.int x.payee,.int x.sum,.int x.currency,.int x.tenor.kind,.int x.tenor.n,.int x.tenor.unit,.int x.day,.int x.city,.int x.pay,.int x.need,.int x.rate,.int x.flags,.int x.parts]
@[simp] theorem abb (x:Bill):(bu x).cells=[.int x.drawer,.int x.drawee,.int x.payee,.int x.sum,.int x.currency,.int x.tenor.kind,.int x.tenor.n,.int x.tenor.unit,.int x.day,.int x.city,.int x.pay,.int x.need,.int x.rate,.int x.flags,.int x.parts]:=_root_.id rfl
@[simp] theorem aeG (x:Bill):D.agg [.int x.drawer,.int x.drawee,.int x.payee,.int x.sum,.int x.currency,.int x.tenor.kind,.int x.tenor.n,.int x.tenor.unit,.int x.day,.int x.city,.int x.pay,.int x.need,.int x.rate,.int x.flags,.int x.parts]=bu x:=_root_.id rfl
@[simp] theorem abU (x:Bill):uQ 15 (bu x)=bu x:=_root_.id rfl
@[simp] theorem abS (x:Bill) (a0 a1 a2 a3 a4 a5 a6 a7 a8 a9 a10 a11 a12 a13 a14:D):D.agg (aX [a0,a1,a2,a3,a4,a5,a6,a7,a8,a9,a10,a11,a12,a13,a14] 0 [.int x.drawer,.int x.drawee,.int x.payee,.int x.sum,.int x.currency,.int x.tenor.kind,.int x.tenor.n,.int x.tenor.unit,.int x.day,.int x.city,.int x.pay,.int x.need,.int x.rate,.int x.flags,.int x.parts])=bu x:=_root_.id rfl
@[simp] theorem afj (x:Bill):(bu x).c 2=.int x.payee:=_root_.id rfl
@[simp] theorem aek (x:Bill):(bu x).c 3=.int x.sum:=_root_.id rfl
@[simp] theorem aee (x:Bill):(bu x).c 5=.int x.tenor.kind:=_root_.id rfl
@[simp] theorem aeo (x:Bill):(bu x).c 6=.int x.tenor.n:=_root_.id rfl
@[simp] theorem ae3 (x:Bill):(bu x).c 7=.int x.tenor.unit:=_root_.id rfl
@[simp] theorem aeH (x:Bill):(bu x).c 8=.int x.day:=_root_.id rfl
@[simp] theorem aei (x:Bill):(bu x).c 9=.int x.city:=_root_.id rfl
@[simp] theorem acz (x:Bill):(bu x).c 10=.int x.pay:=_root_.id rfl
@[simp] theorem acB (x:Bill):(bu x).c 12=.int x.rate:=_root_.id rfl
@[simp] theorem acO (x:Bill):(bu x).c 13=.int x.flags:=_root_.id rfl
@[simp] theorem acT (x:Bill):(bu x).c 14=.int x.parts:=_root_.id rfl
def Bill.OK (x:Bill):Prop:=I64 x.drawer∧I64 x.drawee∧I64 x.payee∧I64 x.sum∧I64 x.currency∧Tenor.OK x.tenor∧I64 x.day∧I64 x.city∧I64 x.pay∧I64 x.need∧I64 x.rate∧I64 x.flags∧I64 x.parts
structure Sign where
 kind:Int
 part:Int
 who:Int
 for_:Int
 to:Int
 sum:Int
 day:Int
 city:Int
 flags:Int
 deriving DecidableEq,Inhabited
def gf (x:Sign):D:=.agg [.int x.kind,.int x.part,.int x.who,.int x.for_,.int x.to,.int x.sum,.int x.day,.int x.city,.int x.flags]
@[simp] theorem abr (x:Sign):(gf x).cells=[.int x.kind,.int x.part,.int x.who,.int x.for_,.int x.to,.int x.sum,.int x.day,.int x.city,.int x.flags]:=_root_.id rfl
@[simp] theorem aeV (x:Sign):D.agg [.int x.kind,.int x.part,.int x.who,.int x.for_,.int x.to,.int x.sum,.int x.day,.int x.city,.int x.flags]=gf x:=_root_.id rfl
@[simp] theorem abP (x:Sign):uQ 9 (gf x)=gf x:=_root_.id rfl
@[simp] theorem aeL (x:Sign):(gf x).c 0=.int x.kind:=_root_.id rfl
@[simp] theorem afa (x:Sign):(gf x).c 2=.int x.who:=_root_.id rfl
@[simp] theorem afu (x:Sign):(gf x).c 5=.int x.sum:=_root_.id rfl
@[simp] theorem aeD (x:Sign):(gf x).c 6=.int x.day:=_root_.id rfl
@[simp] theorem aeA (x:Sign):(gf x).c 7=.int x.city:=_root_.id rfl
@[simp] theorem ae2 (x:Sign):(gf x).c 8=.int x.flags:=_root_.id rfl
def signs (l:List Sign):D:=.list (l.map gf)
@[simp] theorem aeC (l:List Sign):(signs l).l=l.map gf:=_root_.id rfl
@[simp] theorem aap (l:List Sign):(signs l).cells=[signs l]:=_root_.id rfl
abbrev Vv:Ty:=.agg [.int .i64,.int .i64,.int .i64,.int .i64,.int .i64,.int .i64,.int .i64,.int .i64,.int .i64]
def Sign.OK (x:Sign):Prop:=I64 x.kind∧I64 x.part∧I64 x.who∧I64 x.for_∧I64 x.to∧I64 x.sum∧I64 x.day∧I64 x.city∧I64 x.flags
theorem Yp {d:D} (h:DTy Vv d):∃x:Sign,d=gf x∧x.OK:=by
 obtain⟨ds,rfl,hs⟩:=h.agg_inv
 obtain⟨d0,ds,rfl,h0,hs⟩:=hs.cons_inv
 obtain⟨d1,ds,rfl,h1,hs⟩:=hs.cons_inv
 obtain⟨d2,ds,rfl,h2,hs⟩:=hs.cons_inv
 obtain⟨d3,ds,rfl,h3,hs⟩:=hs.cons_inv
 obtain⟨d4,ds,rfl,h4,hs⟩:=hs.cons_inv
 obtain⟨d5,ds,rfl,h5,hs⟩:=hs.cons_inv
 obtain⟨d6,ds,rfl,h6,hs⟩:=hs.cons_inv
 obtain⟨d7,ds,rfl,h7,hs⟩:=hs.cons_inv
 obtain⟨d8,ds,rfl,h8,hs⟩:=hs.cons_inv
 obtain rfl:=hs.nil_inv
 obtain⟨n0,rfl,b0⟩:=h0.i64_inv
 obtain⟨n1,rfl,b1⟩:=h1.i64_inv
 obtain⟨n2,rfl,b2⟩:=h2.i64_inv
 obtain⟨n3,rfl,b3⟩:=h3.i64_inv
 obtain⟨n4,rfl,b4⟩:=h4.i64_inv
 obtain⟨n5,rfl,b5⟩:=h5.i64_inv
 obtain⟨n6,rfl,b6⟩:=h6.i64_inv
 obtain⟨n7,rfl,b7⟩:=h7.i64_inv
 obtain⟨n8,rfl,b8⟩:=h8.i64_inv
 exact⟨⟨n0,n1,n2,n3,n4,n5,n6,n7,n8⟩,rfl,⟨b0,b1,b2,b3,b4,b5,b6,b7,b8⟩⟩
theorem Xc {d:D} (h:DTy (.slice Vv) d):∃l:List Sign,d=signs l∧l.length≤maxLen∧∀y,y∈l→Sign.OK y:=by
 obtain⟨xs,rfl,hm,hx⟩:=h.slice_inv
 obtain⟨l,rfl,hl⟩:=cl (enc:=gf) (P:=Sign.OK) fun x hh=>Yp (hx x hh)
 exact⟨l,rfl,by simpa using hm,hl⟩
structure Alter where
 at_:Int
 sum:Int
 deriving DecidableEq,Inhabited
def gz (x:Alter):D:=.agg [.int x.at_,.int x.sum]
@[simp] theorem aag (x:Alter):(gz x).cells=[.int x.at_,.int x.sum]:=_root_.id rfl
@[simp] theorem acM (x:Alter):D.agg [.int x.at_,.int x.sum]=gz x:=_root_.id rfl
@[simp] theorem acr (x:Alter):(gz x).c 0=.int x.at_:=_root_.id rfl
@[simp] theorem adf (x:Alter):(gz x).c 1=.int x.sum:=_root_.id rfl
def alters (l:List Alter):D:=.list (l.map gz)
@[simp] theorem adr (l:List Alter):(alters l).l=l.map gz:=_root_.id rfl
@[simp] theorem Z8 (l:List Alter):(alters l).cells=[alters l]:=_root_.id rfl
abbrev RU:Ty:=.agg [.int .i64,.int .i64]
def Alter.OK (x:Alter):Prop:=I64 x.at_∧I64 x.sum
theorem XR {d:D} (h:DTy RU d):∃x:Alter,d=gz x∧x.OK:=by
 obtain⟨ds,rfl,hs⟩:=h.agg_inv
 obtain⟨d0,ds,rfl,h0,hs⟩:=hs.cons_inv
 obtain⟨d1,ds,rfl,h1,hs⟩:=hs.cons_inv
 obtain rfl:=hs.nil_inv
 obtain⟨n0,rfl,b0⟩:=h0.i64_inv
 obtain⟨n1,rfl,b1⟩:=h1.i64_inv
 exact⟨⟨n0,n1⟩,rfl,⟨b0,b1⟩⟩
theorem UL {d:D} (h:DTy (.slice RU) d):∃l:List Alter,d=alters l∧l.length≤maxLen∧∀y,y∈l→Alter.OK y:=by
 obtain⟨xs,rfl,hm,hx⟩:=h.slice_inv
 obtain⟨l,rfl,hl⟩:=cl (enc:=gz) (P:=Alter.OK) fun x hh=>XR (hx x hh)
 exact⟨l,rfl,by simpa using hm,hl⟩
structure Act where
 kind:Int
 who:Int
 to:Int
 part:Int
 at_:Int
 sum:Int
 day:Int
 city:Int
 form:Int
 deriving DecidableEq,Inhabited
def th (x:Act):D:=.agg [.int x.kind,.int x.who,.int x.to,.int x.part,.int x.at_,.int x.sum,.int x.day,.int x.city,.int x.form]
@[simp] theorem ab7 (x:Act):(th x).cells=[.int x.kind,.int x.who,.int x.to,.int x.part,.int x.at_,.int x.sum,.int x.day,.int x.city,.int x.form]:=_root_.id rfl
@[simp] theorem afO (x:Act):D.agg [.int x.kind,.int x.who,.int x.to,.int x.part,.int x.at_,.int x.sum,.int x.day,.int x.city,.int x.form]=th x:=_root_.id rfl
@[simp] theorem acS (x:Act):uQ 9 (th x)=th x:=_root_.id rfl
@[simp] theorem agj (x:Act):(th x).c 0=.int x.kind:=_root_.id rfl
@[simp] theorem afW (x:Act):(th x).c 6=.int x.day:=_root_.id rfl
def acts (l:List Act):D:=.list (l.map th)
@[simp] theorem afU (l:List Act):(acts l).l=l.map th:=_root_.id rfl
@[simp] theorem abj (l:List Act):(acts l).cells=[acts l]:=_root_.id rfl
abbrev ZB:Ty:=.agg [.int .i64,.int .i64,.int .i64,.int .i64,.int .i64,.int .i64,.int .i64,.int .i64,.int .i64]
def Act.OK (x:Act):Prop:=I64 x.kind∧I64 x.who∧I64 x.to∧I64 x.part∧I64 x.at_∧I64 x.sum∧I64 x.day∧I64 x.city∧I64 x.form
theorem Z5 {d:D} (h:DTy ZB d):∃x:Act,d=th x∧x.OK:=by
 obtain⟨ds,rfl,hs⟩:=h.agg_inv
 obtain⟨d0,ds,rfl,h0,hs⟩:=hs.cons_inv
 obtain⟨d1,ds,rfl,h1,hs⟩:=hs.cons_inv
 obtain⟨d2,ds,rfl,h2,hs⟩:=hs.cons_inv
 obtain⟨d3,ds,rfl,h3,hs⟩:=hs.cons_inv
 obtain⟨d4,ds,rfl,h4,hs⟩:=hs.cons_inv
 obtain⟨d5,ds,rfl,h5,hs⟩:=hs.cons_inv
 obtain⟨d6,ds,rfl,h6,hs⟩:=hs.cons_inv
 obtain⟨d7,ds,rfl,h7,hs⟩:=hs.cons_inv
 obtain⟨d8,ds,rfl,h8,hs⟩:=hs.cons_inv
 obtain rfl:=hs.nil_inv
 obtain⟨n0,rfl,b0⟩:=h0.i64_inv
 obtain⟨n1,rfl,b1⟩:=h1.i64_inv
 obtain⟨n2,rfl,b2⟩:=h2.i64_inv
 obtain⟨n3,rfl,b3⟩:=h3.i64_inv
 obtain⟨n4,rfl,b4⟩:=h4.i64_inv
 obtain⟨n5,rfl,b5⟩:=h5.i64_inv
 obtain⟨n6,rfl,b6⟩:=h6.i64_inv
 obtain⟨n7,rfl,b7⟩:=h7.i64_inv
 obtain⟨n8,rfl,b8⟩:=h8.i64_inv
 exact⟨⟨n0,n1,n2,n3,n4,n5,n6,n7,n8⟩,rfl,⟨b0,b1,b2,b3,b4,b5,b6,b7,b8⟩⟩
theorem Yl {d:D} (h:DTy (.slice ZB) d):∃l:List Act,d=acts l∧l.length≤maxLen∧∀y,y∈l→Act.OK y:=by
 obtain⟨xs,rfl,hm,hx⟩:=h.slice_inv
 obtain⟨l,rfl,hl⟩:=cl (enc:=th) (P:=Act.OK) fun x hh=>Z5 (hx x hh)
 exact⟨l,rfl,by simpa using hm,hl⟩
structure Fact where
 kind:Int
 at_:Int
 n:Int
 deriving DecidableEq,Inhabited
def pY (x:Fact):D:=.agg [.int x.kind,.int x.at_,.int x.n]
@[simp] theorem abl (x:Fact):(pY x).cells=[.int x.kind,.int x.at_,.int x.n]:=_root_.id rfl
@[simp] theorem aeh (x:Fact):D.agg [.int x.kind,.int x.at_,.int x.n]=pY x:=_root_.id rfl
@[simp] theorem ad9 (x:Fact):(pY x).c 0=.int x.kind:=_root_.id rfl
@[simp] theorem aep (x:Fact):(pY x).c 1=.int x.at_:=_root_.id rfl
@[simp] theorem ae5 (x:Fact):(pY x).c 2=.int x.n:=_root_.id rfl
def facts (l:List Fact):D:=.list (l.map pY)
@[simp] theorem aeQ (l:List Fact):(facts l).l=l.map pY:=_root_.id rfl
@[simp] theorem aaC (l:List Fact):(facts l).cells=[facts l]:=_root_.id rfl
abbrev UR:Ty:=.agg [.int .i64,.int .i64,.int .i64]
def Fact.OK (x:Fact):Prop:=I64 x.kind∧I64 x.at_∧I64 x.n
theorem XT {d:D} (h:DTy UR d):∃x:Fact,d=pY x∧x.OK:=by
 obtain⟨ds,rfl,hs⟩:=h.agg_inv
 obtain⟨d0,ds,rfl,h0,hs⟩:=hs.cons_inv
 obtain⟨d1,ds,rfl,h1,hs⟩:=hs.cons_inv
 obtain⟨d2,ds,rfl,h2,hs⟩:=hs.cons_inv
 obtain rfl:=hs.nil_inv
 obtain⟨n0,rfl,b0⟩:=h0.i64_inv
 obtain⟨n1,rfl,b1⟩:=h1.i64_inv
 obtain⟨n2,rfl,b2⟩:=h2.i64_inv
 exact⟨⟨n0,n1,n2⟩,rfl,⟨b0,b1,b2⟩⟩
theorem PZ {d:D} (h:DTy (.slice UR) d):∃l:List Fact,d=facts l∧l.length≤maxLen∧∀y,y∈l→Fact.OK y:=by
 obtain⟨xs,rfl,hm,hx⟩:=h.slice_inv
 obtain⟨l,rfl,hl⟩:=cl (enc:=pY) (P:=Fact.OK) fun x hh=>XT (hx x hh)
 exact⟨l,rfl,by simpa using hm,hl⟩
structure File where
 bill:Bill
 signs:List Sign
 alters:List Alter
 acts:List Act
 facts:List Fact
 deriving Inhabited
def aQ (x:File):D:=.agg [.int x.bill.drawer,.int x.bill.drawee,.int x.bill.payee,.int x.bill.sum,.int x.bill.currency,.int x.bill.tenor.kind,.int x.bill.tenor.n,.int x.bill.tenor.unit,.int x.bill.day,.int x.bill.city,.int x.bill.pay,.int x.bill.need,.int x.bill.rate,.int x.bill.flags,.int x.bill.parts,signs x.signs,alters x.alters,acts x.acts,facts x.facts]
@[simp] theorem abq (x:File):(aQ x).cells=[.int x.bill.drawer,.int x.bill.drawee,.int x.bill.payee,.int x.bill.sum,.int x.bill.currency,.int x.bill.tenor.kind,.int x.bill.tenor.n,.int x.bill.tenor.unit,.int x.bill.day,.int x.bill.city,.int x.bill.pay,.int x.bill.need,.int x.bill.rate,.int x.bill.flags,.int x.bill.parts,signs x.signs,alters x.alters,acts x.acts,facts x.facts]:=_root_.id rfl
@[simp] theorem aez (x:File):D.agg [.int x.bill.drawer,.int x.bill.drawee,.int x.bill.payee,.int x.bill.sum,.int x.bill.currency,.int x.bill.tenor.kind,.int x.bill.tenor.n,.int x.bill.tenor.unit,.int x.bill.day,.int x.bill.city,.int x.bill.pay,.int x.bill.need,.int x.bill.rate,.int x.bill.flags,.int x.bill.parts,signs x.signs,alters x.alters,acts x.acts,facts x.facts]=aQ x:=_root_.id rfl
@[simp] theorem abM (x:File):uQ 19 (aQ x)=aQ x:=_root_.id rfl
@[simp] theorem ab5 (x:File) (a0 a1 a2 a3 a4 a5 a6 a7 a8 a9 a10 a11 a12 a13 a14 a15 a16 a17 a18:D):D.agg (aX [a0,a1,a2,a3,a4,a5,a6,a7,a8,a9,a10,a11,a12,a13,a14,a15,a16,a17,a18] 0 [.int x.bill.drawer,.int x.bill.drawee,.int x.bill.payee,.int x.bill.sum,.int x.bill.currency,.int x.bill.tenor.kind,.int x.bill.tenor.n,.int x.bill.tenor.unit,.int x.bill.day,.int x.bill.city,.int x.bill.pay,.int x.bill.need,.int x.bill.rate,.int x.bill.flags,.int x.bill.parts,signs x.signs,alters x.alters,acts x.acts,facts x.facts])=aQ x:=_root_.id rfl
@[simp] theorem aeP (x:File):(aQ x).c 3=.int x.bill.sum:=_root_.id rfl
@[simp] theorem aeW (x:File):(aQ x).c 5=.int x.bill.tenor.kind:=_root_.id rfl
@[simp] theorem adX (x:File):(aQ x).c 15=signs x.signs:=_root_.id rfl
@[simp] theorem ad6 (x:File):(aQ x).c 16=alters x.alters:=_root_.id rfl
@[simp] theorem acF (x:File):(aQ x).c 17=acts x.acts:=_root_.id rfl
@[simp] theorem acs (x:File):(aQ x).c 18=facts x.facts:=_root_.id rfl
abbrev abv:Ty:=.agg [.int .i64,.int .i64,.int .i64,.int .i64,.int .i64,.int .i64,.int .i64,.int .i64,.int .i64,.int .i64,.int .i64,.int .i64,.int .i64,.int .i64,.int .i64,.slice Vv,.slice RU,.slice ZB,.slice UR]
def File.OK (x:File):Prop:=Bill.OK x.bill∧(x.signs.length≤maxLen∧∀y,y∈x.signs→Sign.OK y)∧(x.alters.length≤maxLen∧∀y,y∈x.alters→Alter.OK y)∧(x.acts.length≤maxLen∧∀y,y∈x.acts→Act.OK y)∧(x.facts.length≤maxLen∧∀y,y∈x.facts→Fact.OK y)
theorem YC {d:D} (h:DTy abv d):∃x:File,d=aQ x∧x.OK:=by
 obtain⟨ds,rfl,hs⟩:=h.agg_inv
 obtain⟨d0,ds,rfl,h0,hs⟩:=hs.cons_inv
 obtain⟨d1,ds,rfl,h1,hs⟩:=hs.cons_inv
 obtain⟨d2,ds,rfl,h2,hs⟩:=hs.cons_inv
 obtain⟨d3,ds,rfl,h3,hs⟩:=hs.cons_inv
 obtain⟨d4,ds,rfl,h4,hs⟩:=hs.cons_inv
 obtain⟨d5,ds,rfl,h5,hs⟩:=hs.cons_inv
 obtain⟨d6,ds,rfl,h6,hs⟩:=hs.cons_inv
 obtain⟨d7,ds,rfl,h7,hs⟩:=hs.cons_inv
 obtain⟨d8,ds,rfl,h8,hs⟩:=hs.cons_inv
 obtain⟨d9,ds,rfl,h9,hs⟩:=hs.cons_inv
 obtain⟨d10,ds,rfl,h10,hs⟩:=hs.cons_inv
 obtain⟨d11,ds,rfl,h11,hs⟩:=hs.cons_inv
 obtain⟨d12,ds,rfl,h12,hs⟩:=hs.cons_inv
 obtain⟨d13,ds,rfl,h13,hs⟩:=hs.cons_inv
 obtain⟨d14,ds,rfl,h14,hs⟩:=hs.cons_inv
 obtain⟨d15,ds,rfl,h15,hs⟩:=hs.cons_inv
 obtain⟨d16,ds,rfl,h16,hs⟩:=hs.cons_inv
 obtain⟨d17,ds,rfl,h17,hs⟩:=hs.cons_inv
 obtain⟨d18,ds,rfl,h18,hs⟩:=hs.cons_inv
 obtain rfl:=hs.nil_inv
 obtain⟨n0,rfl,b0⟩:=h0.i64_inv
 obtain⟨n1,rfl,b1⟩:=h1.i64_inv
 obtain⟨n2,rfl,b2⟩:=h2.i64_inv
 obtain⟨n3,rfl,b3⟩:=h3.i64_inv
 obtain⟨n4,rfl,b4⟩:=h4.i64_inv
 obtain⟨n5,rfl,b5⟩:=h5.i64_inv
 obtain⟨n6,rfl,b6⟩:=h6.i64_inv
 obtain⟨n7,rfl,b7⟩:=h7.i64_inv
 obtain⟨n8,rfl,b8⟩:=h8.i64_inv
 obtain⟨n9,rfl,b9⟩:=h9.i64_inv
 obtain⟨n10,rfl,b10⟩:=h10.i64_inv
 obtain⟨n11,rfl,b11⟩:=h11.i64_inv
 obtain⟨n12,rfl,b12⟩:=h12.i64_inv
 obtain⟨n13,rfl,b13⟩:=h13.i64_inv
 obtain⟨n14,rfl,b14⟩:=h14.i64_inv
 obtain⟨n15,rfl,b15,c15⟩:=Xc h15
 obtain⟨n16,rfl,b16,c16⟩:=UL h16
 obtain⟨n17,rfl,b17,c17⟩:=Yl h17
 obtain⟨n18,rfl,b18,c18⟩:=PZ h18
 exact⟨⟨⟨n0,n1,n2,n3,n4,⟨n5,n6,n7⟩,n8,n9,n10,n11,n12,n13,n14⟩,n15,n16,n17,n18⟩,rfl,⟨⟨b0,b1,b2,b3,b4,⟨b5,b6,b7⟩,b8,b9,b10,b11,b12,b13,b14⟩,⟨b15,c15⟩,⟨b16,c16⟩,⟨b17,c17⟩,⟨b18,c18⟩⟩⟩
structure Case where
 file:File
 sign:Int
 holder:Int
 defence:Int
 due:Int
 day:Int
 deriving Inhabited
def bm (x:Case):D:=.agg [.int x.file.bill.drawer,.int x.file.bill.drawee,.int x.file.bill.payee,.int x.file.bill.sum,.int x.file.bill.currency,.int x.file.bill.tenor.kind,.int x.file.bill.tenor.n,.int x.file.bill.tenor.unit,.int x.file.bill.day,.int x.file.bill.city,.int x.file.bill.pay,.int x.file.bill.need,.int x.file.bill.rate,.int x.file.bill.flags,.int x.file.bill.parts,signs x.file.signs,alters x.file.alters,acts x.file.acts,facts x.file.facts,.int x.sign,.int x.holder,.int x.defence,.int x.due,.int x.day]
@[simp] theorem abe (x:Case):(bm x).cells=[.int x.file.bill.drawer,.int x.file.bill.drawee,.int x.file.bill.payee,.int x.file.bill.sum,.int x.file.bill.currency,.int x.file.bill.tenor.kind,.int x.file.bill.tenor.n,.int x.file.bill.tenor.unit,.int x.file.bill.day,.int x.file.bill.city,.int x.file.bill.pay,.int x.file.bill.need,.int x.file.bill.rate,.int x.file.bill.flags,.int x.file.bill.parts,signs x.file.signs,alters x.file.alters,acts x.file.acts,facts x.file.facts,.int x.sign,.int x.holder,.int x.defence,.int x.due,.int x.day]:=_root_.id rfl
@[simp] theorem aex (x:Case):D.agg [.int x.file.bill.drawer,.int x.file.bill.drawee,.int x.file.bill.payee,.int x.file.bill.sum,.int x.file.bill.currency,.int x.file.bill.tenor.kind,.int x.file.bill.tenor.n,.int x.file.bill.tenor.unit,.int x.file.bill.day,.int x.file.bill.city,.int x.file.bill.pay,.int x.file.bill.need,.int x.file.bill.rate,.int x.file.bill.flags,.int x.file.bill.parts,signs x.file.signs,alters x.file.alters,acts x.file.acts,facts x.file.facts,.int x.sign,.int x.holder,.int x.defence,.int x.due,.int x.day]=bm x:=_root_.id rfl
@[simp] theorem Xm (x:Case):uQ 24 (bm x)=bm x:=_root_.id rfl
@[simp] theorem WJ (x:Case) (a0 a1 a2 a3 a4 a5 a6 a7 a8 a9 a10 a11 a12 a13 a14 a15 a16 a17 a18 a19 a20 a21 a22 a23:D):D.agg (aX [a0,a1,a2,a3,a4,a5,a6,a7,a8,a9,a10,a11,a12,a13,a14,a15,a16,a17,a18,a19,a20,a21,a22,a23] 0 [.int x.file.bill.drawer,.int x.file.bill.drawee,.int x.file.bill.payee,.int x.file.bill.sum,.int x.file.bill.currency,.int x.file.bill.tenor.kind,.int x.file.bill.tenor.n,.int x.file.bill.tenor.unit,.int x.file.bill.day,.int x.file.bill.city,.int x.file.bill.pay,.int x.file.bill.need,.int x.file.bill.rate,.int x.file.bill.flags,.int x.file.bill.parts,signs x.file.signs,alters x.file.alters,acts x.file.acts,facts x.file.facts,.int x.sign,.int x.holder,.int x.defence,.int x.due,.int x.day])=bm x:=_root_.id rfl
@[simp] theorem aed (x:Case):(bm x).c 9=.int x.file.bill.city:=_root_.id rfl
@[simp] theorem acA (x:Case):(bm x).c 10=.int x.file.bill.pay:=_root_.id rfl
@[simp] theorem acQ (x:Case):(bm x).c 15=signs x.file.signs:=_root_.id rfl
@[simp] theorem acI (x:Case):(bm x).c 19=.int x.sign:=_root_.id rfl
@[simp] theorem adV (x:Case):(bm x).c 20=.int x.holder:=_root_.id rfl
@[simp] theorem adC (x:Case):(bm x).c 21=.int x.defence:=_root_.id rfl
@[simp] theorem ac3 (x:Case):(bm x).c 22=.int x.due:=_root_.id rfl
@[simp] theorem acX (x:Case):(bm x).c 23=.int x.day:=_root_.id rfl
def cases(l:List Case):D:=.list (l.map bm)
structure Cell where
 known:Bool
 n:Int
 deriving DecidableEq,Inhabited
def aG (x:Cell):D:=.agg [.bool x.known,.int x.n]
@[simp] theorem abg (x:Cell):(aG x).cells=[.bool x.known,.int x.n]:=_root_.id rfl
@[simp] theorem aeM (x:Cell):D.agg [.bool x.known,.int x.n]=aG x:=_root_.id rfl
@[simp] theorem aet (x:Cell):(aG x).c 0=.bool x.known:=_root_.id rfl
@[simp] theorem aff (x:Cell):(aG x).c 1=.int x.n:=_root_.id rfl
def cells (l:List Cell):D:=.list (l.map aG)
@[simp] theorem afD (l:List Cell):(cells l).l=l.map aG:=_root_.id rfl
@[simp] theorem aaA (l:List Cell):(cells l).cells=[cells l]:=_root_.id rfl
structure Said where
 cell:Cell
 order:Int
 path:List Int
 err:Int
 deriving Inhabited
def lC (x:Said):D:=.agg [.bool x.cell.known,.int x.cell.n,.int x.order,ints x.path,.int x.err]
@[simp] theorem abf (x:Said):(lC x).cells=[.bool x.cell.known,.int x.cell.n,.int x.order,ints x.path,.int x.err]:=_root_.id rfl
@[simp] theorem aeb (x:Said):D.agg [.bool x.cell.known,.int x.cell.n,.int x.order,ints x.path,.int x.err]=lC x:=_root_.id rfl
@[simp] theorem abY (x:Said):uQ 5 (lC x)=lC x:=_root_.id rfl
structure Effect where
 sign:Int
 kind:Int
 firm:Int
 binds:Int
 text:Int
 sum:Int
 recourse:Bool
 deriving DecidableEq,Inhabited
def bE (x:Effect):D:=.agg [.int x.sign,.int x.kind,.int x.firm,.int x.binds,.int x.text,.int x.sum,.bool x.recourse]
@[simp] theorem Z7 (x:Effect):(bE x).cells=[.int x.sign,.int x.kind,.int x.firm,.int x.binds,.int x.text,.int x.sum,.bool x.recourse]:=_root_.id rfl
@[simp] theorem ab9 (x:Effect):D.agg [.int x.sign,.int x.kind,.int x.firm,.int x.binds,.int x.text,.int x.sum,.bool x.recourse]=bE x:=_root_.id rfl
@[simp] theorem aaN (x:Effect):uQ 7 (bE x)=bE x:=_root_.id rfl
@[simp] theorem abL (x:Effect):(bE x).c 0=.int x.sign:=_root_.id rfl
@[simp] theorem aca (x:Effect):(bE x).c 1=.int x.kind:=_root_.id rfl
@[simp] theorem abX (x:Effect):(bE x).c 2=.int x.firm:=_root_.id rfl
@[simp] theorem acg (x:Effect):(bE x).c 3=.int x.binds:=_root_.id rfl
@[simp] theorem ace (x:Effect):(bE x).c 4=.int x.text:=_root_.id rfl
@[simp] theorem abV (x:Effect):(bE x).c 5=.int x.sum:=_root_.id rfl
@[simp] theorem ab3 (x:Effect):(bE x).c 6=.bool x.recourse:=_root_.id rfl
def vE (l:List Effect):D:=.list (l.map bE)
@[simp] theorem abI (l:List Effect):(vE l).l=l.map bE:=_root_.id rfl
@[simp] theorem ad0 (a0 x0:D):aX [a0] 0 [x0]=[x0]:=_root_.id rfl
@[simp] theorem acR (a0 a1 x0 x1:D):aX [a0,a1] 0 [x0,x1]=[x0,x1]:=_root_.id rfl
@[simp] theorem ac1 (a0 a1 a2 x0 x1 x2:D):aX [a0,a1,a2] 0 [x0,x1,x2]=[x0,x1,x2]:=_root_.id rfl
@[simp] theorem ac6 (a0 a1 a2 a3 x0 x1 x2 x3:D):aX [a0,a1,a2,a3] 0 [x0,x1,x2,x3]=[x0,x1,x2,x3]:=_root_.id rfl
@[simp] theorem adE (a0 a1 a2 a3 a4 x0 x1 x2 x3 x4:D):aX [a0,a1,a2,a3,a4] 0 [x0,x1,x2,x3,x4]=[x0,x1,x2,x3,x4]:=_root_.id rfl
@[simp] theorem adD (a0 a1 a2 a3 a4 a5 x0 x1 x2 x3 x4 x5:D):aX [a0,a1,a2,a3,a4,a5] 0 [x0,x1,x2,x3,x4,x5]=[x0,x1,x2,x3,x4,x5]:=_root_.id rfl
@[simp] theorem acD (a0 a1 a2 a3 a4 a5 a6 x0 x1 x2 x3 x4 x5 x6:D):aX [a0,a1,a2,a3,a4,a5,a6] 0 [x0,x1,x2,x3,x4,x5,x6]=[x0,x1,x2,x3,x4,x5,x6]:=_root_.id rfl
@[simp] theorem acJ (a0 a1 a2 a3 a4 a5 a6 a7 a8 x0 x1 x2 x3 x4 x5 x6 x7 x8:D):aX [a0,a1,a2,a3,a4,a5,a6,a7,a8] 0 [x0,x1,x2,x3,x4,x5,x6,x7,x8]=[x0,x1,x2,x3,x4,x5,x6,x7,x8]:=_root_.id rfl
end Rm
set_option linter.unusedVariables false
set_option maxRecDepth 100000
namespace Rm
open Go Go.Proofs Cx
abbrev I:Ty:=.int .i64
abbrev Y0:Ty:=.agg [.str,I,I,(.slice I),(.slice I),(.slice I)]
abbrev Y1:Ty:=.agg [I]
abbrev Y2:Ty:=.agg [.str,I,I]
abbrev Y3:Ty:=.agg [I,I,.bool]
abbrev Y4:Ty:=.agg [I,I,I,(.slice .trm)]
abbrev Y5:Ty:=.agg [.str,.bool,(.slice Y3),(.slice Y4)]
abbrev Y6:Ty:=.agg [I,I,I]
abbrev Y7:Ty:=.agg [I,I,I,I,I]
abbrev Y8:Ty:=.agg [(.slice .str),(.slice Y0),(.slice Y1),(.slice Y2),(.slice Y5),(.slice Y6),(.slice Y7),(.slice Y6)]
abbrev Y9:Ty:=.agg [I,I,I,I,I,I,I,I,I]
abbrev Y10:Ty:=.agg [I,I]
abbrev Y11:Ty:=.agg [I,I,I,I,I,I,I,I,I,I,I,I,I,I,I,(.slice Y9),(.slice Y10),(.slice Y9),(.slice Y6)]
abbrev Y12:Ty:=.agg [I,I,I,I,I,I,.bool]
abbrev Y13:Ty:=.agg [I,I,I,I,I,I,I,I,I,I,I,I,I,I,I,(.slice Y9),(.slice Y10),(.slice Y9),(.slice Y6),I,I,I,I,I]
abbrev Y14:Ty:=.agg [.bool,I,I,(.slice I),I]
abbrev Y15:Ty:=.agg [.bool,I]
abbrev Y16:Ty:=.agg [(.slice .str),(.slice Y0),(.slice Y1),(.slice Y2),(.slice Y5),(.slice Y6),(.slice Y7),(.slice Y6),I,I,I,I,I,I,I,I,I,I,I,I,I,I,I,I,I,(.slice Y9),(.slice Y10),(.slice Y9),(.slice Y6),I,I]
abbrev Y17:Ty:=.agg [I,I,I,I,I,I,I,I,I,I,I,I,I,I,I]
abbrev Y18:Ty:=.agg [I,I,(.slice .trm)]
abbrev Y19:Ty:=.agg [(.slice Y15)]
abbrev Y20:Ty:=.agg [(.slice I),I]
def aq:List (Nat×Sig):=[
 (4,⟨[Y8,I,Y11,I,I,(.slice Y6)],.bool,.dat⟩),
 (5,⟨[Y8,I,Y11,I,(.slice Y6)],.bool,.dat⟩),
 (6,⟨[Y8,I,Y11,(.int .u8),I,(.int .u16)],.bool,.dat⟩),
 (15,⟨[],.bool,.dat⟩),
 (16,⟨[Y8,Y11],.bool,.dat⟩),
 (17,⟨[Y8,I,Y11,I,I],(.tup [Y12,.bool]),.dat⟩),
 (19,⟨[(.slice Y12),(.slice Y12)],.bool,.dat⟩),
 (20,⟨[Y8,I,Y11,I],(.slice Y12),.dat⟩),
 (22,⟨[I,I],I,.dat⟩),
 (24,⟨[Y8,Y11],I,.dat⟩),
 (25,⟨[Y11,Y6],Y11,.dat⟩),
 (26,⟨[Y11,I],Y11,.dat⟩),
 (36,⟨[Y8,I,I,Y13],Y14,.dat⟩),
 (38,⟨[Y8,I,I,Y11,I],Y14,.dat⟩),
 (41,⟨[Y14],I,.dat⟩),
 (43,⟨[Y14],I,.dat⟩),
 (50,⟨[Y8,I,Y11,I],I,.dat⟩),
 (52,⟨[Y8,Y13],(.slice Y15),.dat⟩),
 (53,⟨[Y8,I],I,.dat⟩),
 (54,⟨[Y8,I,I,(.slice I)],(.tup [(.slice I),I]),.dat⟩),
 (55,⟨[Y5,I,(.slice Y15)],(.tup [Y15,I]),.dat⟩),
 (58,⟨[],(.tup [Y8,Y11]),.dat⟩),
 (59,⟨[Y8,Y11],.bool,.dat⟩),
 (60,⟨[Y8],I,.dat⟩),
 (61,⟨[Y8,I,Y11,I],Y16,.dat⟩),
 (62,⟨[Y16,I],Y12,.dat⟩),
 (65,⟨[(.slice I)],I,.dat⟩),
 (66,⟨[Y8,Y17],I,.dat⟩),
 (67,⟨[Y8,Y11,I],I,.dat⟩),
 (68,⟨[I,I,I],.bool,.dat⟩),
 (69,⟨[Y8,Y11,I],I,.dat⟩),
 (70,⟨[Y11,I],I,.dat⟩),
 (71,⟨[Y11,I,I],Y15,.dat⟩),
 (72,⟨[I,I],.bool,.dat⟩),
 (75,⟨[Y8],I,.dat⟩),
 (95,⟨[Y8,I,I,Y13],(.tup [Y14,(.slice Y15)]),.dat⟩),
 (100,⟨[Y8,Y13],(.tup [Y13,(.slice Y15)]),.dat⟩),
 (101,⟨[Y8,I,Y13],(.nsl I),.dat⟩),
 (105,⟨[Y8,Y17,I,I],(.tup [I,I]),.dat⟩),
 (106,⟨[Y11],I,.dat⟩),
 (109,⟨[(.slice Y10),(.fn [Y10] .bool)],.bool,.dat⟩),
 (110,⟨[Y10,(.ref Y13)],.bool,.dat⟩),
 (111,⟨[.bool],Y15,.dat⟩),
 (112,⟨[Y11,I,I],Y15,.dat⟩),
 (113,⟨[I,I],.bool,.dat⟩),
 (114,⟨[Y8,I,I,(.slice I)],.bool,.dat⟩),
 (115,⟨[Y8,I,I,(.slice I)],(.tup [I,.bool]),.dat⟩),
 (116,⟨[(.slice I),I],.bool,.dat⟩),
 (117,⟨[Y5,I],(.tup [Y18,I]),.dat⟩),
 (118,⟨[Y18,(.slice Y15)],Y15,.dat⟩),
 (119,⟨[I],(.tup [I,.bool]),.dat⟩),
 (120,⟨[I],.bool,.dat⟩),
 (121,⟨[Y0,I],.bool,.dat⟩),
 (122,⟨[I],Y18,.dat⟩),
 (123,⟨[Y8],.bool,.dat⟩),
 (124,⟨[Y11],.bool,.dat⟩),
 (125,⟨[Y5],.bool,.dat⟩),
 (126,⟨[Y8],I,.dat⟩),
 (127,⟨[Y8],I,.dat⟩),
 (128,⟨[Y8],I,.dat⟩),
 (129,⟨[Y8],I,.dat⟩),
 (130,⟨[Y8],I,.dat⟩),
 (131,⟨[Y11,I,I],.bool,.dat⟩),
 (132,⟨[Y16,I,I],I,.dat⟩),
 (133,⟨[Y16,I],(.tup [I,I]),.dat⟩),
 (138,⟨[I,I],.bool,.dat⟩),
 (139,⟨[I,I],.bool,.dat⟩),
 (140,⟨[I],.bool,.dat⟩),
 (141,⟨[Y17],.bool,.dat⟩),
 (142,⟨[Y8,I,I],(.tup [I,I]),.dat⟩),
 (143,⟨[Y8,Y11,I],.bool,.dat⟩),
 (144,⟨[Y8,Y11,Y9],.bool,.dat⟩),
 (145,⟨[Y8],(.tup [(.slice .str),(.slice .str),(.slice .str)]),.dat⟩),
 (146,⟨[(.slice .str),I,(.fn [I] .bool)],I,.dat⟩),
 (147,⟨[I],.bool,.dat⟩),
 (148,⟨[I,(.ref Y8)],.bool,.dat⟩),
 (149,⟨[Y8,Y0],.bool,.dat⟩),
 (150,⟨[I,(.ref Y8)],.bool,.dat⟩),
 (151,⟨[I,(.ref Y8)],.bool,.dat⟩),
 (152,⟨[Y5],.bool,.dat⟩),
 (153,⟨[Y8],I,.dat⟩),
 (154,⟨[Y8],I,.dat⟩),
 (161,⟨[Y8,I,I],(.tup [I,I]),.dat⟩),
 (173,⟨[Y8,I],.bool,.dat⟩),
 (174,⟨[I],.bool,.dat⟩),
 (175,⟨[Y6],.bool,.dat⟩),
 (176,⟨[Y8,Y17,I],(.tup [I,I]),.dat⟩),
 (177,⟨[Y8,I,I],(.tup [I,I]),.dat⟩),
 (178,⟨[(.slice I)],I,.dat⟩),
 (183,⟨[(.slice Y10),(.fn [Y10] .bool)],I,.dat⟩),
 (184,⟨[(.slice I),(.fn [I] .bool)],.bool,.dat⟩),
 (185,⟨[I,(.ref I)],.bool,.dat⟩),
 (186,⟨[(.slice I),I],I,.dat⟩),
 (187,⟨[(.slice Y4),(.fn [Y4] .bool)],I,.dat⟩),
 (188,⟨[Y4,(.ref I)],.bool,.dat⟩),
 (189,⟨[Y18],(.tup [I,I]),.dat⟩),
 (190,⟨[Y19,Y18],(.tup [Y15,(.slice I)]),.dat⟩),
 (191,⟨[I],(.tup [I,I,I]),.dat⟩),
 (192,⟨[Y18],.bool,.dat⟩),
 (193,⟨[(.slice .str),I],I,.dat⟩),
 (194,⟨[Y8,Y0],.bool,.dat⟩),
 (195,⟨[Y5],.bool,.dat⟩),
 (196,⟨[Y11,I],(.map I .bool),.dat⟩),
 (197,⟨[Y11,I],I,.dat⟩),
 (198,⟨[Y11,I],.bool,.dat⟩),
 (199,⟨[Y11,I,I],.bool,.dat⟩),
 (200,⟨[(.slice .str),I],I,.dat⟩),
 (201,⟨[(.slice I),I,I],.bool,.dat⟩),
 (215,⟨[I,Y6],(.tup [I,I]),.dat⟩),
 (216,⟨[Y8,I,I],I,.dat⟩),
 (217,⟨[Y0,I],(.tup [I,I]),.dat⟩),
 (220,⟨[(.slice I),(.fn [I] .bool)],I,.dat⟩),
 (221,⟨[Y18,I],I,.dat⟩),
 (222,⟨[Y18],(.tup [I,I]),.dat⟩),
 (223,⟨[Y19,I],Y15,.dat⟩),
 (224,⟨[I,(.slice Y15)],Y15,.dat⟩),
 (225,⟨[(.slice (.slice I))],(.slice I),.dat⟩),
 (226,⟨[Y18,I,I],I,.dat⟩),
 (227,⟨[.str],.bool,.dat⟩),
 (228,⟨[(.slice .str),I,.str],.bool,.dat⟩),
 (229,⟨[(.slice I),I,I],.bool,.dat⟩),
 (230,⟨[.str],.bool,.dat⟩),
 (231,⟨[(.slice .str),.str],.bool,.dat⟩),
 (239,⟨[I,I],(.tup [I,I]),.dat⟩),
 (240,⟨[Y0,I,I],(.fn [(.fn [I] .bool)] (.tup [])),.dat⟩),
 (245,⟨[Y18],(.tup [I,I]),.dat⟩),
 (246,⟨[I],Y20,.dat⟩),
 (247,⟨[I],(.tup [I,.bool]),.dat⟩),
 (248,⟨[.bool],Y15,.dat⟩),
 (249,⟨[I],I,.dat⟩),
 (250,⟨[I,I,I],I,.dat⟩),
 (251,⟨[.nils .bool,I],(.slice I),(.row 3 I)⟩),
 (252,⟨[(.int .u8)],.bool,.dat⟩),
 (253,⟨[(.slice .str),.str],I,.dat⟩),
 (272,⟨[I,I,I],(.tup [I,I]),.dat⟩),
 (273,⟨[I,I],I,.dat⟩),
 (278,⟨[I,I],I,.dat⟩),
 (284,⟨[I,I,I],I,.dat⟩),
 (285,⟨[(.int .u64),(.int .u64)],(.tup [(.int .u64),(.int .u64)]),.dat⟩)]
def aa9:List (Nat×CSig):=[
 (110,⟨[(.ref Y13)],[Y10],.bool⟩),
 (147,⟨[],[I],.bool⟩),
 (148,⟨[(.ref Y8)],[I],.bool⟩),
 (150,⟨[(.ref Y8)],[I],.bool⟩),
 (151,⟨[(.ref Y8)],[I],.bool⟩),
 (185,⟨[(.ref I)],[I],.bool⟩),
 (188,⟨[(.ref I)],[Y4],.bool⟩),
 (274,⟨[(.ref I),(.ref I),(.ref Y0)],[(.fn [I] .bool)],(.tup [])⟩)]
abbrev wF:Nat:=4
abbrev HV:Nat:=15
abbrev PL:Nat:=16
abbrev A4:Nat:=17
abbrev LZ:Nat:=19
abbrev xT:Nat:=20
abbrev Kq:Nat:=22
abbrev HD:Nat:=26
abbrev Qd:Nat:=36
abbrev Ng:Nat:=38
abbrev P4:Nat:=41
abbrev EB:Nat:=43
abbrev yN:Nat:=50
abbrev A6:Nat:=52
abbrev v5:Nat:=53
abbrev xP:Nat:=54
abbrev yd:Nat:=55
abbrev AJ:Nat:=58
abbrev Qa:Nat:=59
abbrev HC:Nat:=60
abbrev HS:Nat:=61
abbrev qW:Nat:=62
abbrev yT:Nat:=65
abbrev CS:Nat:=68
abbrev vX:Nat:=72
abbrev AO:Nat:=75
abbrev Mi:Nat:=95
abbrev Ua:Nat:=100
abbrev Q9:Nat:=101
abbrev sI:Nat:=105
abbrev AP:Nat:=106
abbrev fZ:Nat:=109
abbrev wO:Nat:=110
abbrev yp:Nat:=111
abbrev AI:Nat:=112
abbrev My:Nat:=113
abbrev wA:Nat:=114
abbrev ug:Nat:=115
abbrev mi:Nat:=116
abbrev DH:Nat:=117
abbrev Hu:Nat:=118
abbrev DJ:Nat:=119
abbrev uS:Nat:=120
abbrev wI:Nat:=121
abbrev yR:Nat:=122
abbrev Qg:Nat:=123
abbrev P0:Nat:=124
abbrev Pl:Nat:=125
abbrev ES:Nat:=126
abbrev Ic:Nat:=127
abbrev EH:Nat:=128
abbrev AU:Nat:=129
abbrev E2:Nat:=130
abbrev xr:Nat:=131
abbrev uv:Nat:=132
abbrev uD:Nat:=133
abbrev AN:Nat:=145
abbrev EM:Nat:=146
abbrev oq:Nat:=147
abbrev oG:Nat:=148
abbrev C5:Nat:=149
abbrev oH:Nat:=150
abbrev nU:Nat:=151
abbrev AD:Nat:=152
abbrev wc:Nat:=153
abbrev Eh:Nat:=154
abbrev yf:Nat:=161
abbrev q9:Nat:=173
abbrev ju:Nat:=174
abbrev rp:Nat:=175
abbrev qq:Nat:=176
abbrev rj:Nat:=177
abbrev uz:Nat:=178
abbrev jh:Nat:=183
abbrev ix:Nat:=184
abbrev kV:Nat:=185
abbrev rh:Nat:=186
abbrev kA:Nat:=187
abbrev rz:Nat:=188
abbrev DC:Nat:=189
abbrev kq:Nat:=190
abbrev ux:Nat:=191
abbrev PA:Nat:=192
abbrev nG:Nat:=193
abbrev ou:Nat:=194
abbrev mW:Nat:=195
abbrev yD:Nat:=196
abbrev AY:Nat:=197
abbrev Av:Nat:=200
abbrev xN:Nat:=201
abbrev AX:Nat:=215
abbrev Eb:Nat:=216
abbrev wk:Nat:=217
abbrev lh:Nat:=220
abbrev yw:Nat:=221
abbrev D1:Nat:=222
abbrev nK:Nat:=223
abbrev yL:Nat:=224
abbrev pQ:Nat:=225
abbrev Nl:Nat:=226
abbrev K1:Nat:=227
abbrev Du:Nat:=228
abbrev D7:Nat:=229
abbrev x9:Nat:=230
abbrev jc:Nat:=231
abbrev nJ:Nat:=239
abbrev wg:Nat:=240
abbrev HF:Nat:=245
abbrev xW:Nat:=246
abbrev y4:Nat:=247
abbrev MD:Nat:=248
abbrev Nh:Nat:=249
abbrev sT:Nat:=250
abbrev EY:Nat:=252
abbrev mg:Nat:=253
abbrev yb:Nat:=272
abbrev sQ:Nat:=273
abbrev sM:Nat:=274
abbrev xU:Nat:=278
abbrev k9:Nat:=284
abbrev Df:Nat:=285
noncomputable def ctx:Ctx:={P:=Tryz.prog,cap:=aa aa9,sig:=aa aq,msig:=fun _=>none,glob:=RC 0 [6,7,10,12,13,14,15,16,20,21]}
end Rm
