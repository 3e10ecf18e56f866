/-
  Shared texts of this claim.
-/
import Derived.Test.YtepfoekldooaeaaGreatDoorKAJ
import Derived.Test.YtepfoekldooaeaaGreatDoorProg
set_option linter.unusedSimpArgs false
set_option linter.unusedVariables false
namespace Rm
open Go Cx
abbrev str (b:ByteArray):D:=.v (.string b)
def strs (l:List ByteArray):D:=.list (l.map str)
@[simp] theorem aJU (l:List ByteArray):(strs l).l=l.map str:=_root_.id rfl
theorem str_inv {d:D}(h:DTy .str d):∃b,d=str b:=by
 cases h with
 |str b=>exact⟨b,rfl⟩
 |other t d h=>exact h.elim
theorem azx {d:D}(h:DTy (.slice .str) d):∃l:List ByteArray,d=strs l∧l.length≤maxLen:=by
 obtain⟨xs,rfl,hm,hx⟩:=h.slice_inv;obtain⟨l,rfl,hl⟩:=jR (enc:=str) (P:=fun _=>True) fun x hh=>(str_inv (hx x hh)).imp fun b hb=>⟨hb,trivial⟩
 exact⟨l,rfl,by simpa using hm⟩
@[simp] theorem aEG (t:Tm):(dB t).cells=[.int t.op,.int t.n,.list (t.args.map dB)]:=by rw[Bn];rfl
@[simp] theorem aEH (t:Tm):D.agg [.int t.op,.int t.n,.list (t.args.map dB)]=dB t:=(Bn t).symm
@[simp] theorem aED (t:Tm):(dB t).c 0=.int t.op:=by rw[Bn];rfl
@[simp] theorem aEE (t:Tm):(dB t).c 1=.int t.n:=by rw[Bn];rfl
@[simp] theorem aEF (t:Tm):(dB t).c 2=.list (t.args.map dB):=by rw[Bn];rfl
structure City where
 name:ByteArray
 order:Int
 currency:Int
 rest:List Int
 feasts:List Int
 shut:List Int
 deriving Inhabited
def gq (x:City):D:=.agg [str x.name,.int x.order,.int x.currency,ints x.rest,ints x.feasts,ints x.shut]
@[simp] theorem aDt (x:City):(gq x).cells=[str x.name,.int x.order,.int x.currency,ints x.rest,ints x.feasts,ints x.shut]:=_root_.id rfl
@[simp] theorem aIu (x:City):D.agg [str x.name,.int x.order,.int x.currency,ints x.rest,ints x.feasts,ints x.shut]=gq x:=_root_.id rfl
@[simp] theorem aFr (x:City):gM 6 (gq x)=gq x:=_root_.id rfl
@[simp] theorem aDn (x:City):(gq x).c 0=str x.name:=_root_.id rfl
@[simp] theorem aDo (x:City):(gq x).c 1=.int x.order:=_root_.id rfl
@[simp] theorem aDp (x:City):(gq x).c 2=.int x.currency:=_root_.id rfl
@[simp] theorem aDq (x:City):(gq x).c 3=ints x.rest:=_root_.id rfl
@[simp] theorem aDr (x:City):(gq x).c 4=ints x.feasts:=_root_.id rfl
@[simp] theorem aDs (x:City):(gq x).c 5=ints x.shut:=_root_.id rfl
def m6 (l:List City):D:=.list (l.map gq)
@[simp] theorem aFV (l:List City):(m6 l).l=l.map gq:=_root_.id rfl
abbrev VK:Ty:=.agg [.str,.int .i64,.int .i64,.slice (.int .i64),.slice (.int .i64),.slice (.int .i64)]
def City.OK (x:City):Prop:=aT x.order∧aT x.currency∧(x.rest.length≤maxLen∧∀y,y∈x.rest→aT y)∧(x.feasts.length≤maxLen∧∀y,y∈x.feasts→aT y)∧(x.shut.length≤maxLen∧∀y,y∈x.shut→aT y)
theorem ano {d:D}(h:DTy VK d):∃x:City,d=gq x∧x.OK:=by
 obtain⟨ds,rfl,hs⟩:=h.agg_inv;obtain⟨d0,ds,rfl,h0,hs⟩:=hs.cons_inv;obtain⟨d1,ds,rfl,h1,hs⟩:=hs.cons_inv;obtain⟨d2,ds,rfl,h2,hs⟩:=hs.cons_inv;obtain⟨d3,ds,rfl,h3,hs⟩:=hs.cons_inv;obtain⟨d4,ds,rfl,h4,hs⟩:=hs.cons_inv;obtain⟨d5,ds,rfl,h5,hs⟩:=hs.cons_inv;obtain rfl:=hs.nil_inv;obtain⟨n0,rfl⟩:=str_inv h0;obtain⟨n1,rfl,b1⟩:=h1.i64_inv;obtain⟨n2,rfl,b2⟩:=h2.i64_inv;obtain⟨n3,rfl,b3,c3⟩:=h3.ints_inv;obtain⟨n4,rfl,b4,c4⟩:=h4.ints_inv;obtain⟨n5,rfl,b5,c5⟩:=h5.ints_inv;exact⟨⟨n0,n1,n2,n3,n4,n5⟩,rfl,⟨b1,b2,⟨b3,c3⟩,⟨b4,c4⟩,⟨b5,c5⟩⟩⟩
theorem anp {d:D}(h:DTy (.slice VK) d):∃l:List City,d=m6 l∧l.length≤maxLen∧∀y,y∈l→City.OK y:=by
 obtain⟨xs,rfl,hm,hx⟩:=h.slice_inv;obtain⟨l,rfl,hl⟩:=jR (enc:=gq) (P:=City.OK) fun x hh=>ano (hx x hh);exact⟨l,rfl,by simpa using hm,hl⟩
structure Firm where
 name:ByteArray
 city:Int
 group:Int
 deriving Inhabited
def qY (x:Firm):D:=.agg [str x.name,.int x.city,.int x.group]
@[simp] theorem aDO (x:Firm):(qY x).cells=[str x.name,.int x.city,.int x.group]:=_root_.id rfl
@[simp] theorem aIy (x:Firm):D.agg [str x.name,.int x.city,.int x.group]=qY x:=_root_.id rfl
@[simp] theorem aDL (x:Firm):(qY x).c 0=str x.name:=_root_.id rfl
@[simp] theorem aDM (x:Firm):(qY x).c 1=.int x.city:=_root_.id rfl
@[simp] theorem aDN (x:Firm):(qY x).c 2=.int x.group:=_root_.id rfl
def firms (l:List Firm):D:=.list (l.map qY)
@[simp] theorem aG9 (l:List Firm):(firms l).l=l.map qY:=_root_.id rfl
abbrev VM:Ty:=.agg [.str,.int .i64,.int .i64]
def Firm.OK (x:Firm):Prop:=aT x.city∧aT x.group
theorem ao8 {d:D}(h:DTy VM d):∃x:Firm,d=qY x∧x.OK:=by
 obtain⟨ds,rfl,hs⟩:=h.agg_inv;obtain⟨d0,ds,rfl,h0,hs⟩:=hs.cons_inv;obtain⟨d1,ds,rfl,h1,hs⟩:=hs.cons_inv;obtain⟨d2,ds,rfl,h2,hs⟩:=hs.cons_inv;obtain rfl:=hs.nil_inv;obtain⟨n0,rfl⟩:=str_inv h0;obtain⟨n1,rfl,b1⟩:=h1.i64_inv;obtain⟨n2,rfl,b2⟩:=h2.i64_inv;exact⟨⟨n0,n1,n2⟩,rfl,⟨b1,b2⟩⟩
theorem ao9 {d:D}(h:DTy (.slice VM) d):∃l:List Firm,d=firms l∧l.length≤maxLen∧∀y,y∈l→Firm.OK y:=by
 obtain⟨xs,rfl,hm,hx⟩:=h.slice_inv;obtain⟨l,rfl,hl⟩:=jR (enc:=qY) (P:=Firm.OK) fun x hh=>ao8 (hx x hh);exact⟨l,rfl,by simpa using hm,hl⟩
structure Group where
 grade:Int
 deriving DecidableEq,Inhabited
def uR (x:Group):D:=.agg [.int x.grade]
@[simp] theorem aDQ (x:Group):(uR x).cells=[.int x.grade]:=_root_.id rfl
@[simp] theorem aIz (x:Group):D.agg [.int x.grade]=uR x:=_root_.id rfl
@[simp] theorem aDP (x:Group):(uR x).c 0=.int x.grade:=_root_.id rfl
def groups (l:List Group):D:=.list (l.map uR)
@[simp] theorem aHh (l:List Group):(groups l).l=l.map uR:=_root_.id rfl
abbrev VN:Ty:=.agg [.int .i64]
def Group.OK (x:Group):Prop:=aT x.grade
theorem arS {d:D}(h:DTy VN d):∃x:Group,d=uR x∧x.OK:=by
 obtain⟨ds,rfl,hs⟩:=h.agg_inv;obtain⟨d0,ds,rfl,h0,hs⟩:=hs.cons_inv;obtain rfl:=hs.nil_inv;obtain⟨n0,rfl,b0⟩:=h0.i64_inv;exact⟨⟨n0⟩,rfl,b0⟩
theorem arT {d:D}(h:DTy (.slice VN) d):∃l:List Group,d=groups l∧l.length≤maxLen∧∀y,y∈l→Group.OK y:=by
 obtain⟨xs,rfl,hm,hx⟩:=h.slice_inv;obtain⟨l,rfl,hl⟩:=jR (enc:=uR) (P:=Group.OK) fun x hh=>arS (hx x hh);exact⟨l,rfl,by simpa using hm,hl⟩
structure Usance where
 fr:Int
 to:Int
 days:Int
 deriving DecidableEq,Inhabited
def rf (x:Usance):D:=.agg [.int x.fr,.int x.to,.int x.days]
@[simp] theorem aER (x:Usance):(rf x).cells=[.int x.fr,.int x.to,.int x.days]:=_root_.id rfl
@[simp] theorem aIK (x:Usance):D.agg [.int x.fr,.int x.to,.int x.days]=rf x:=_root_.id rfl
@[simp] theorem aEO (x:Usance):(rf x).c 0=.int x.fr:=_root_.id rfl
@[simp] theorem aEP (x:Usance):(rf x).c 1=.int x.to:=_root_.id rfl
@[simp] theorem aEQ (x:Usance):(rf x).c 2=.int x.days:=_root_.id rfl
def usances (l:List Usance):D:=.list (l.map rf)
@[simp] theorem aJX (l:List Usance):(usances l).l=l.map rf:=_root_.id rfl
abbrev VT:Ty:=.agg [.int .i64,.int .i64,.int .i64]
def Usance.OK (x:Usance):Prop:=aT x.fr∧aT x.to∧aT x.days
theorem aB9 {d:D}(h:DTy VT d):∃x:Usance,d=rf x∧x.OK:=by
 obtain⟨ds,rfl,hs⟩:=h.agg_inv;obtain⟨d0,ds,rfl,h0,hs⟩:=hs.cons_inv;obtain⟨d1,ds,rfl,h1,hs⟩:=hs.cons_inv;obtain⟨d2,ds,rfl,h2,hs⟩:=hs.cons_inv;obtain rfl:=hs.nil_inv;obtain⟨n0,rfl,b0⟩:=h0.i64_inv;obtain⟨n1,rfl,b1⟩:=h1.i64_inv;obtain⟨n2,rfl,b2⟩:=h2.i64_inv;exact⟨⟨n0,n1,n2⟩,rfl,⟨b0,b1,b2⟩⟩
theorem aCa {d:D}(h:DTy (.slice VT) d):∃l:List Usance,d=usances l∧l.length≤maxLen∧∀y,y∈l→Usance.OK y:=by
 obtain⟨xs,rfl,hm,hx⟩:=h.slice_inv;obtain⟨l,rfl,hl⟩:=jR (enc:=rf) (P:=Usance.OK) fun x hh=>aB9 (hx x hh);exact⟨l,rfl,by simpa using hm,hl⟩
structure Rate where
 fr:Int
 to:Int
 num:Int
 den:Int
 since:Int
 deriving DecidableEq,Inhabited
def oh (x:Rate):D:=.agg [.int x.fr,.int x.to,.int x.num,.int x.den,.int x.since]
@[simp] theorem aEd (x:Rate):(oh x).cells=[.int x.fr,.int x.to,.int x.num,.int x.den,.int x.since]:=_root_.id rfl
@[simp] theorem aID (x:Rate):D.agg [.int x.fr,.int x.to,.int x.num,.int x.den,.int x.since]=oh x:=_root_.id rfl
@[simp] theorem aD8 (x:Rate):(oh x).c 0=.int x.fr:=_root_.id rfl
@[simp] theorem aD9 (x:Rate):(oh x).c 1=.int x.to:=_root_.id rfl
@[simp] theorem aEa (x:Rate):(oh x).c 2=.int x.num:=_root_.id rfl
@[simp] theorem aEb (x:Rate):(oh x).c 3=.int x.den:=_root_.id rfl
@[simp] theorem aEc (x:Rate):(oh x).c 4=.int x.since:=_root_.id rfl
def rates (l:List Rate):D:=.list (l.map oh)
@[simp] theorem aJf (l:List Rate):(rates l).l=l.map oh:=_root_.id rfl
abbrev VQ:Ty:=.agg [.int .i64,.int .i64,.int .i64,.int .i64,.int .i64]
def Rate.OK (x:Rate):Prop:=aT x.fr∧aT x.to∧aT x.num∧aT x.den∧aT x.since
theorem ayA {d:D}(h:DTy VQ d):∃x:Rate,d=oh x∧x.OK:=by
 obtain⟨ds,rfl,hs⟩:=h.agg_inv;obtain⟨d0,ds,rfl,h0,hs⟩:=hs.cons_inv;obtain⟨d1,ds,rfl,h1,hs⟩:=hs.cons_inv;obtain⟨d2,ds,rfl,h2,hs⟩:=hs.cons_inv;obtain⟨d3,ds,rfl,h3,hs⟩:=hs.cons_inv;obtain⟨d4,ds,rfl,h4,hs⟩:=hs.cons_inv;obtain rfl:=hs.nil_inv;obtain⟨n0,rfl,b0⟩:=h0.i64_inv;obtain⟨n1,rfl,b1⟩:=h1.i64_inv;obtain⟨n2,rfl,b2⟩:=h2.i64_inv;obtain⟨n3,rfl,b3⟩:=h3.i64_inv;obtain⟨n4,rfl,b4⟩:=h4.i64_inv;exact⟨⟨n0,n1,n2,n3,n4⟩,rfl,⟨b0,b1,b2,b3,b4⟩⟩
theorem ayB {d:D}(h:DTy (.slice VQ) d):∃l:List Rate,d=rates l∧l.length≤maxLen∧∀y,y∈l→Rate.OK y:=by
 obtain⟨xs,rfl,hm,hx⟩:=h.slice_inv;obtain⟨l,rfl,hl⟩:=jR (enc:=oh) (P:=Rate.OK) fun x hh=>ayA (hx x hh);exact⟨l,rfl,by simpa using hm,hl⟩
structure Halt where
 order:Int
 fr:Int
 to:Int
 deriving DecidableEq,Inhabited
def qZ (x:Halt):D:=.agg [.int x.order,.int x.fr,.int x.to]
@[simp] theorem aDU (x:Halt):(qZ x).cells=[.int x.order,.int x.fr,.int x.to]:=_root_.id rfl
@[simp] theorem aIA (x:Halt):D.agg [.int x.order,.int x.fr,.int x.to]=qZ x:=_root_.id rfl
@[simp] theorem aDR (x:Halt):(qZ x).c 0=.int x.order:=_root_.id rfl
@[simp] theorem aDS (x:Halt):(qZ x).c 1=.int x.fr:=_root_.id rfl
@[simp] theorem aDT (x:Halt):(qZ x).c 2=.int x.to:=_root_.id rfl
def halts (l:List Halt):D:=.list (l.map qZ)
@[simp] theorem aHv (l:List Halt):(halts l).l=l.map qZ:=_root_.id rfl
abbrev VO:Ty:=.agg [.int .i64,.int .i64,.int .i64]
def Halt.OK (x:Halt):Prop:=aT x.order∧aT x.fr∧aT x.to
theorem ass {d:D}(h:DTy VO d):∃x:Halt,d=qZ x∧x.OK:=by
 obtain⟨ds,rfl,hs⟩:=h.agg_inv;obtain⟨d0,ds,rfl,h0,hs⟩:=hs.cons_inv;obtain⟨d1,ds,rfl,h1,hs⟩:=hs.cons_inv;obtain⟨d2,ds,rfl,h2,hs⟩:=hs.cons_inv;obtain rfl:=hs.nil_inv;obtain⟨n0,rfl,b0⟩:=h0.i64_inv;obtain⟨n1,rfl,b1⟩:=h1.i64_inv;obtain⟨n2,rfl,b2⟩:=h2.i64_inv;exact⟨⟨n0,n1,n2⟩,rfl,⟨b0,b1,b2⟩⟩
theorem ast {d:D}(h:DTy (.slice VO) d):∃l:List Halt,d=halts l∧l.length≤maxLen∧∀y,y∈l→Halt.OK y:=by
 obtain⟨xs,rfl,hm,hx⟩:=h.slice_inv;obtain⟨l,rfl,hl⟩:=jR (enc:=qZ) (P:=Halt.OK) fun x hh=>ass (hx x hh);exact⟨l,rfl,by simpa using hm,hl⟩
structure Choice where
 ask:Int
 by_:Int
 whole:Bool
 deriving DecidableEq,Inhabited
def sE (x:Choice):D:=.agg [.int x.ask,.int x.by_,.bool x.whole]
@[simp] theorem aDm (x:Choice):(sE x).cells=[.int x.ask,.int x.by_,.bool x.whole]:=_root_.id rfl
@[simp] theorem aIt (x:Choice):D.agg [.int x.ask,.int x.by_,.bool x.whole]=sE x:=_root_.id rfl
@[simp] theorem aDk (x:Choice):(sE x).c 0=.int x.ask:=_root_.id rfl
@[simp] theorem aDl (x:Choice):(sE x).c 1=.int x.by_:=_root_.id rfl
def choices (l:List Choice):D:=.list (l.map sE)
@[simp] theorem aFU (l:List Choice):(choices l).l=l.map sE:=_root_.id rfl
abbrev VJ:Ty:=.agg [.int .i64,.int .i64,.bool]
def Choice.OK (x:Choice):Prop:=aT x.ask∧aT x.by_
theorem anm {d:D}(h:DTy VJ d):∃x:Choice,d=sE x∧x.OK:=by
 obtain⟨ds,rfl,hs⟩:=h.agg_inv;obtain⟨d0,ds,rfl,h0,hs⟩:=hs.cons_inv;obtain⟨d1,ds,rfl,h1,hs⟩:=hs.cons_inv;obtain⟨d2,ds,rfl,h2,hs⟩:=hs.cons_inv;obtain rfl:=hs.nil_inv;obtain⟨n0,rfl,b0⟩:=h0.i64_inv;obtain⟨n1,rfl,b1⟩:=h1.i64_inv;obtain⟨n2,rfl⟩:=h2.bool_inv;exact⟨⟨n0,n1,n2⟩,rfl,⟨b0,b1⟩⟩
theorem ann {d:D}(h:DTy (.slice VJ) d):∃l:List Choice,d=choices l∧l.length≤maxLen∧∀y,y∈l→Choice.OK y:=by
 obtain⟨xs,rfl,hm,hx⟩:=h.slice_inv;obtain⟨l,rfl,hl⟩:=jR (enc:=sE) (P:=Choice.OK) fun x hh=>anm (hx x hh);exact⟨l,rfl,by simpa using hm,hl⟩
structure Rule where
 ask:Int
 term:Tm
 deriving Inhabited
def q9 (x:Rule):D:=.agg [.int x.ask,.int x.term.op,.int x.term.n,.list (x.term.args.map dB)]
@[simp] theorem aEo (x:Rule):(q9 x).cells=[.int x.ask,.int x.term.op,.int x.term.n,.list (x.term.args.map dB)]:=_root_.id rfl
@[simp] theorem aIF (x:Rule):D.agg [.int x.ask,.int x.term.op,.int x.term.n,.list (x.term.args.map dB)]=q9 x:=_root_.id rfl
@[simp] theorem aEn (x:Rule):(q9 x).c 0=.int x.ask:=_root_.id rfl
def rules (l:List Rule):D:=.list (l.map q9)
@[simp] theorem aJj (l:List Rule):(rules l).l=l.map q9:=_root_.id rfl
abbrev VR:Ty:=.agg [.int .i64,.int .i64,.int .i64,.slice .trm]
def Rule.OK (x:Rule):Prop:=aT x.ask∧Tm.OK x.term
theorem ay6 {d:D}(h:DTy VR d):∃x:Rule,d=q9 x∧x.OK:=by
 obtain⟨ds,rfl,hs⟩:=h.agg_inv;obtain⟨d0,ds,rfl,h0,hs⟩:=hs.cons_inv;obtain⟨d1,ds,rfl,h1,hs⟩:=hs.cons_inv;obtain⟨d2,ds,rfl,h2,hs⟩:=hs.cons_inv;obtain⟨d3,ds,rfl,h3,hs⟩:=hs.cons_inv;obtain rfl:=hs.nil_inv;obtain⟨n0,rfl,b0⟩:=h0.i64_inv;obtain⟨n1,rfl,b1⟩:=h1.i64_inv;obtain⟨n2,rfl,b2⟩:=h2.i64_inv;obtain⟨n3,rfl,b3,c3⟩:=h3.trms_inv;exact⟨⟨n0,.mk n1 n2 n3⟩,rfl,⟨b0,.mk _ _ _ b1 b2 b3 c3⟩⟩
theorem ay7 {d:D}(h:DTy (.slice VR) d):∃l:List Rule,d=rules l∧l.length≤maxLen∧∀y,y∈l→Rule.OK y:=by
 obtain⟨xs,rfl,hm,hx⟩:=h.slice_inv;obtain⟨l,rfl,hl⟩:=jR (enc:=q9) (P:=Rule.OK) fun x hh=>ay6 (hx x hh);exact⟨l,rfl,by simpa using hm,hl⟩
structure Order where
 name:ByteArray
 accepts:Bool
 choices:List Choice
 rules:List Rule
 deriving Inhabited
def jZ (x:Order):D:=.agg [str x.name,.bool x.accepts,choices x.choices,rules x.rules]
@[simp] theorem aDZ (x:Order):(jZ x).cells=[str x.name,.bool x.accepts,choices x.choices,rules x.rules]:=_root_.id rfl
@[simp] theorem aIB (x:Order):D.agg [str x.name,.bool x.accepts,choices x.choices,rules x.rules]=jZ x:=_root_.id rfl
@[simp] theorem aFu (x:Order):gM 4 (jZ x)=jZ x:=_root_.id rfl
@[simp] theorem aDV (x:Order):(jZ x).c 0=str x.name:=_root_.id rfl
@[simp] theorem aDW (x:Order):(jZ x).c 1=.bool x.accepts:=_root_.id rfl
@[simp] theorem aDX (x:Order):(jZ x).c 2=choices x.choices:=_root_.id rfl
@[simp] theorem aDY (x:Order):(jZ x).c 3=rules x.rules:=_root_.id rfl
def orders (l:List Order):D:=.list (l.map jZ)
@[simp] theorem aIT (l:List Order):(orders l).l=l.map jZ:=_root_.id rfl
abbrev VP:Ty:=.agg [.str,.bool,.slice VJ,.slice VR]
def Order.OK (x:Order):Prop:=(x.choices.length≤maxLen∧∀y,y∈x.choices→Choice.OK y)∧(x.rules.length≤maxLen∧∀y,y∈x.rules→Rule.OK y)
theorem axQ {d:D}(h:DTy VP d):∃x:Order,d=jZ x∧x.OK:=by
 obtain⟨ds,rfl,hs⟩:=h.agg_inv;obtain⟨d0,ds,rfl,h0,hs⟩:=hs.cons_inv;obtain⟨d1,ds,rfl,h1,hs⟩:=hs.cons_inv;obtain⟨d2,ds,rfl,h2,hs⟩:=hs.cons_inv;obtain⟨d3,ds,rfl,h3,hs⟩:=hs.cons_inv;obtain rfl:=hs.nil_inv;obtain⟨n0,rfl⟩:=str_inv h0;obtain⟨n1,rfl⟩:=h1.bool_inv;obtain⟨n2,rfl,b2,c2⟩:=ann h2;obtain⟨n3,rfl,b3,c3⟩:=ay7 h3;exact⟨⟨n0,n1,n2,n3⟩,rfl,⟨⟨b2,c2⟩,⟨b3,c3⟩⟩⟩
theorem axR {d:D}(h:DTy (.slice VP) d):∃l:List Order,d=orders l∧l.length≤maxLen∧∀y,y∈l→Order.OK y:=by
 obtain⟨xs,rfl,hm,hx⟩:=h.slice_inv;obtain⟨l,rfl,hl⟩:=jR (enc:=jZ) (P:=Order.OK) fun x hh=>axQ (hx x hh);exact⟨l,rfl,by simpa using hm,hl⟩
structure Realm where
 currencies:List ByteArray
 cities:List City
 groups:List Group
 firms:List Firm
 orders:List Order
 usances:List Usance
 rates:List Rate
 halts:List Halt
 deriving Inhabited
def aZ (x:Realm):D:=.agg [strs x.currencies,m6 x.cities,groups x.groups,firms x.firms,orders x.orders,usances x.usances,rates x.rates,halts x.halts]
@[simp] theorem aEm (x:Realm):(aZ x).cells=[strs x.currencies,m6 x.cities,groups x.groups,firms x.firms,orders x.orders,usances x.usances,rates x.rates,halts x.halts]:=_root_.id rfl
@[simp] theorem aIE (x:Realm):D.agg [strs x.currencies,m6 x.cities,groups x.groups,firms x.firms,orders x.orders,usances x.usances,rates x.rates,halts x.halts]=aZ x:=_root_.id rfl
@[simp] theorem aFw (x:Realm):gM 8 (aZ x)=aZ x:=_root_.id rfl
@[simp] theorem aIZ (x:Realm)(a0 a1 a2 a3 a4 a5 a6 a7:D):D.agg (cH [a0,a1,a2,a3,a4,a5,a6,a7] 0 [strs x.currencies,m6 x.cities,groups x.groups,firms x.firms,orders x.orders,usances x.usances,rates x.rates,halts x.halts])=aZ x:=_root_.id rfl
@[simp] theorem aEe (x:Realm):(aZ x).c 0=strs x.currencies:=_root_.id rfl
@[simp] theorem aEf (x:Realm):(aZ x).c 1=m6 x.cities:=_root_.id rfl
@[simp] theorem aEg (x:Realm):(aZ x).c 2=groups x.groups:=_root_.id rfl
@[simp] theorem aEh (x:Realm):(aZ x).c 3=firms x.firms:=_root_.id rfl
@[simp] theorem aEi (x:Realm):(aZ x).c 4=orders x.orders:=_root_.id rfl
@[simp] theorem aEj (x:Realm):(aZ x).c 5=usances x.usances:=_root_.id rfl
@[simp] theorem aEk (x:Realm):(aZ x).c 6=rates x.rates:=_root_.id rfl
@[simp] theorem aEl (x:Realm):(aZ x).c 7=halts x.halts:=_root_.id rfl
abbrev aB2:Ty:=.agg [.slice .str,.slice VK,.slice VN,.slice VM,.slice VP,.slice VT,.slice VQ,.slice VO]
def Realm.OK (x:Realm):Prop:=x.currencies.length≤maxLen∧(x.cities.length≤maxLen∧∀y,y∈x.cities→City.OK y)∧(x.groups.length≤maxLen∧∀y,y∈x.groups→Group.OK y)∧(x.firms.length≤maxLen∧∀y,y∈x.firms→Firm.OK y)∧(x.orders.length≤maxLen∧∀y,y∈x.orders→Order.OK y)∧(x.usances.length≤maxLen∧∀y,y∈x.usances→Usance.OK y)∧(x.rates.length≤maxLen∧∀y,y∈x.rates→Rate.OK y)∧(x.halts.length≤maxLen∧∀y,y∈x.halts→Halt.OK y)
theorem L5 {d:D}(h:DTy aB2 d):∃x:Realm,d=aZ x∧x.OK:=by
 obtain⟨ds,rfl,hs⟩:=h.agg_inv;obtain⟨d0,ds,rfl,h0,hs⟩:=hs.cons_inv;obtain⟨d1,ds,rfl,h1,hs⟩:=hs.cons_inv;obtain⟨d2,ds,rfl,h2,hs⟩:=hs.cons_inv;obtain⟨d3,ds,rfl,h3,hs⟩:=hs.cons_inv;obtain⟨d4,ds,rfl,h4,hs⟩:=hs.cons_inv;obtain⟨d5,ds,rfl,h5,hs⟩:=hs.cons_inv;obtain⟨d6,ds,rfl,h6,hs⟩:=hs.cons_inv;obtain⟨d7,ds,rfl,h7,hs⟩:=hs.cons_inv;obtain rfl:=hs.nil_inv;obtain⟨n0,rfl,b0⟩:=azx h0;obtain⟨n1,rfl,b1,c1⟩:=anp h1;obtain⟨n2,rfl,b2,c2⟩:=arT h2;obtain⟨n3,rfl,b3,c3⟩:=ao9 h3;obtain⟨n4,rfl,b4,c4⟩:=axR h4;obtain⟨n5,rfl,b5,c5⟩:=aCa h5;obtain⟨n6,rfl,b6,c6⟩:=ayB h6;obtain⟨n7,rfl,b7,c7⟩:=ast h7;exact⟨⟨n0,n1,n2,n3,n4,n5,n6,n7⟩,rfl,⟨b0,⟨b1,c1⟩,⟨b2,c2⟩,⟨b3,c3⟩,⟨b4,c4⟩,⟨b5,c5⟩,⟨b6,c6⟩,⟨b7,c7⟩⟩⟩
structure Tenor where
 kind:Int
 n:Int
 unit:Int
 deriving DecidableEq,Inhabited
def pK (x:Tenor):D:=.agg [.int x.kind,.int x.n,.int x.unit]
@[simp] theorem aEL (x:Tenor):(pK x).cells=[.int x.kind,.int x.n,.int x.unit]:=_root_.id rfl
@[simp] theorem aIJ (x:Tenor):D.agg [.int x.kind,.int x.n,.int x.unit]=pK x:=_root_.id rfl
@[simp] theorem aEI (x:Tenor):(pK x).c 0=.int x.kind:=_root_.id rfl
@[simp] theorem aEJ (x:Tenor):(pK x).c 1=.int x.n:=_root_.id rfl
@[simp] theorem aEK (x:Tenor):(pK x).c 2=.int x.unit:=_root_.id rfl
def Tenor.OK (x:Tenor):Prop:=aT x.kind∧aT x.n∧aT x.unit
structure Bill where
 drawer:Int
 drawee:Int
 payee:Int
 sum:Int
 currency:Int
 tenor:Tenor
 day:Int
 city:Int
 pay:Int
 need:Int
 rate:Int
 flags:Int
 parts:Int
 deriving DecidableEq,Inhabited
def dp (x:Bill):D:=.agg [.int x.drawer,.int x.drawee,.int x.payee,.int x.sum,.int x.currency,.int x.tenor.kind,.int x.tenor.n,.int x.tenor.unit,.int x.day,.int x.city,.int x.pay,.int x.need,.int x.rate,.int x.flags,.int x.parts]
@[simp] theorem aC7 (x:Bill):(dp x).cells=[.int x.drawer,.int x.drawee,.int x.payee,.int x.sum,.int x.currency,.int x.tenor.kind,.int x.tenor.n,.int x.tenor.unit,.int x.day,.int x.city,.int x.pay,.int x.need,.int x.rate,.int x.flags,.int x.parts]:=_root_.id rfl
@[simp] theorem aIq (x:Bill):D.agg [.int x.drawer,.int x.drawee,.int x.payee,.int x.sum,.int x.currency,.int x.tenor.kind,.int x.tenor.n,.int x.tenor.unit,.int x.day,.int x.city,.int x.pay,.int x.need,.int x.rate,.int x.flags,.int x.parts]=dp x:=_root_.id rfl
@[simp] theorem aFq (x:Bill):gM 15 (dp x)=dp x:=_root_.id rfl
@[simp] theorem aIU (x:Bill)(a0 a1 a2 a3 a4 a5 a6 a7 a8 a9 gH gI gJ gK gL:D):D.agg (cH [a0,a1,a2,a3,a4,a5,a6,a7,a8,a9,gH,gI,gJ,gK,gL] 0 [.int x.drawer,.int x.drawee,.int x.payee,.int x.sum,.int x.currency,.int x.tenor.kind,.int x.tenor.n,.int x.tenor.unit,.int x.day,.int x.city,.int x.pay,.int x.need,.int x.rate,.int x.flags,.int x.parts])=dp x:=_root_.id rfl
@[simp] theorem aCS (x:Bill):(dp x).c 0=.int x.drawer:=_root_.id rfl
@[simp] theorem aCT (x:Bill):(dp x).c 1=.int x.drawee:=_root_.id rfl
@[simp] theorem aCZ (x:Bill):(dp x).c 2=.int x.payee:=_root_.id rfl
@[simp] theorem aC0 (x:Bill):(dp x).c 3=.int x.sum:=_root_.id rfl
@[simp] theorem aC1 (x:Bill):(dp x).c 4=.int x.currency:=_root_.id rfl
@[simp] theorem aC2 (x:Bill):(dp x).c 5=.int x.tenor.kind:=_root_.id rfl
@[simp] theorem aC3 (x:Bill):(dp x).c 6=.int x.tenor.n:=_root_.id rfl
@[simp] theorem aC4 (x:Bill):(dp x).c 7=.int x.tenor.unit:=_root_.id rfl
@[simp] theorem aC5 (x:Bill):(dp x).c 8=.int x.day:=_root_.id rfl
@[simp] theorem aC6 (x:Bill):(dp x).c 9=.int x.city:=_root_.id rfl
@[simp] theorem aCU (x:Bill):(dp x).c 10=.int x.pay:=_root_.id rfl
@[simp] theorem aCV (x:Bill):(dp x).c 11=.int x.need:=_root_.id rfl
@[simp] theorem aCW (x:Bill):(dp x).c 12=.int x.rate:=_root_.id rfl
@[simp] theorem aCX (x:Bill):(dp x).c 13=.int x.flags:=_root_.id rfl
@[simp] theorem aCY (x:Bill):(dp x).c 14=.int x.parts:=_root_.id rfl
def Bill.OK (x:Bill):Prop:=aT x.drawer∧aT x.drawee∧aT x.payee∧aT x.sum∧aT x.currency∧Tenor.OK x.tenor∧aT x.day∧aT x.city∧aT x.pay∧aT x.need∧aT x.rate∧aT x.flags∧aT x.parts
structure Sign where
 kind:Int
 part:Int
 who:Int
 for_:Int
 to:Int
 sum:Int
 day:Int
 city:Int
 flags:Int
 deriving DecidableEq,Inhabited
def jF (x:Sign):D:=.agg [.int x.kind,.int x.part,.int x.who,.int x.for_,.int x.to,.int x.sum,.int x.day,.int x.city,.int x.flags]
@[simp] theorem aEC (x:Sign):(jF x).cells=[.int x.kind,.int x.part,.int x.who,.int x.for_,.int x.to,.int x.sum,.int x.day,.int x.city,.int x.flags]:=_root_.id rfl
@[simp] theorem aII (x:Sign):D.agg [.int x.kind,.int x.part,.int x.who,.int x.for_,.int x.to,.int x.sum,.int x.day,.int x.city,.int x.flags]=jF x:=_root_.id rfl
@[simp] theorem aFy (x:Sign):gM 9 (jF x)=jF x:=_root_.id rfl
@[simp] theorem aEt (x:Sign):(jF x).c 0=.int x.kind:=_root_.id rfl
@[simp] theorem aEu (x:Sign):(jF x).c 1=.int x.part:=_root_.id rfl
@[simp] theorem aEv (x:Sign):(jF x).c 2=.int x.who:=_root_.id rfl
@[simp] theorem aEw (x:Sign):(jF x).c 3=.int x.for_:=_root_.id rfl
@[simp] theorem aEx (x:Sign):(jF x).c 4=.int x.to:=_root_.id rfl
@[simp] theorem aEy (x:Sign):(jF x).c 5=.int x.sum:=_root_.id rfl
@[simp] theorem aEz (x:Sign):(jF x).c 6=.int x.day:=_root_.id rfl
@[simp] theorem aEA (x:Sign):(jF x).c 7=.int x.city:=_root_.id rfl
@[simp] theorem aEB (x:Sign):(jF x).c 8=.int x.flags:=_root_.id rfl
def signs (l:List Sign):D:=.list (l.map jF)
@[simp] theorem aJx (l:List Sign):(signs l).l=l.map jF:=_root_.id rfl
@[simp] theorem aJw (l:List Sign):(signs l).cells=[signs l]:=_root_.id rfl
abbrev VS:Ty:=.agg [.int .i64,.int .i64,.int .i64,.int .i64,.int .i64,.int .i64,.int .i64,.int .i64,.int .i64]
def Sign.OK (x:Sign):Prop:=aT x.kind∧aT x.part∧aT x.who∧aT x.for_∧aT x.to∧aT x.sum∧aT x.day∧aT x.city∧aT x.flags
theorem azp {d:D}(h:DTy VS d):∃x:Sign,d=jF x∧x.OK:=by
 obtain⟨ds,rfl,hs⟩:=h.agg_inv;obtain⟨d0,ds,rfl,h0,hs⟩:=hs.cons_inv;obtain⟨d1,ds,rfl,h1,hs⟩:=hs.cons_inv;obtain⟨d2,ds,rfl,h2,hs⟩:=hs.cons_inv;obtain⟨d3,ds,rfl,h3,hs⟩:=hs.cons_inv;obtain⟨d4,ds,rfl,h4,hs⟩:=hs.cons_inv;obtain⟨d5,ds,rfl,h5,hs⟩:=hs.cons_inv;obtain⟨d6,ds,rfl,h6,hs⟩:=hs.cons_inv;obtain⟨d7,ds,rfl,h7,hs⟩:=hs.cons_inv;obtain⟨d8,ds,rfl,h8,hs⟩:=hs.cons_inv;obtain rfl:=hs.nil_inv;obtain⟨n0,rfl,b0⟩:=h0.i64_inv;obtain⟨n1,rfl,b1⟩:=h1.i64_inv;obtain⟨n2,rfl,b2⟩:=h2.i64_inv;obtain⟨n3,rfl,b3⟩:=h3.i64_inv;obtain⟨n4,rfl,b4⟩:=h4.i64_inv;obtain⟨n5,rfl,b5⟩:=h5.i64_inv;obtain⟨n6,rfl,b6⟩:=h6.i64_inv;obtain⟨n7,rfl,b7⟩:=h7.i64_inv;obtain⟨n8,rfl,b8⟩:=h8.i64_inv;exact⟨⟨n0,n1,n2,n3,n4,n5,n6,n7,n8⟩,rfl,⟨b0,b1,b2,b3,b4,b5,b6,b7,b8⟩⟩
theorem azr {d:D}(h:DTy (.slice VS) d):∃l:List Sign,d=signs l∧l.length≤maxLen∧∀y,y∈l→Sign.OK y:=by
 obtain⟨xs,rfl,hm,hx⟩:=h.slice_inv;obtain⟨l,rfl,hl⟩:=jR (enc:=jF) (P:=Sign.OK) fun x hh=>azp (hx x hh);exact⟨l,rfl,by simpa using hm,hl⟩
structure Alter where
 at_:Int
 sum:Int
 deriving DecidableEq,Inhabited
def og (x:Alter):D:=.agg [.int x.at_,.int x.sum]
@[simp] theorem aCR (x:Alter):(og x).cells=[.int x.at_,.int x.sum]:=_root_.id rfl
@[simp] theorem aIp (x:Alter):D.agg [.int x.at_,.int x.sum]=og x:=_root_.id rfl
@[simp] theorem aCP (x:Alter):(og x).c 0=.int x.at_:=_root_.id rfl
@[simp] theorem aCQ (x:Alter):(og x).c 1=.int x.sum:=_root_.id rfl
def alters (l:List Alter):D:=.list (l.map og)
@[simp] theorem aFC (l:List Alter):(alters l).l=l.map og:=_root_.id rfl
@[simp] theorem aFB (l:List Alter):(alters l).cells=[alters l]:=_root_.id rfl
abbrev VI:Ty:=.agg [.int .i64,.int .i64]
def Alter.OK (x:Alter):Prop:=aT x.at_∧aT x.sum
theorem ahD {d:D}(h:DTy VI d):∃x:Alter,d=og x∧x.OK:=by
 obtain⟨ds,rfl,hs⟩:=h.agg_inv;obtain⟨d0,ds,rfl,h0,hs⟩:=hs.cons_inv;obtain⟨d1,ds,rfl,h1,hs⟩:=hs.cons_inv;obtain rfl:=hs.nil_inv;obtain⟨n0,rfl,b0⟩:=h0.i64_inv;obtain⟨n1,rfl,b1⟩:=h1.i64_inv;exact⟨⟨n0,n1⟩,rfl,⟨b0,b1⟩⟩
theorem ahE {d:D}(h:DTy (.slice VI) d):∃l:List Alter,d=alters l∧l.length≤maxLen∧∀y,y∈l→Alter.OK y:=by
 obtain⟨xs,rfl,hm,hx⟩:=h.slice_inv;obtain⟨l,rfl,hl⟩:=jR (enc:=og) (P:=Alter.OK) fun x hh=>ahD (hx x hh);exact⟨l,rfl,by simpa using hm,hl⟩
structure Act where
 kind:Int
 who:Int
 to:Int
 part:Int
 at_:Int
 sum:Int
 day:Int
 city:Int
 form:Int
 deriving DecidableEq,Inhabited
def gp (x:Act):D:=.agg [.int x.kind,.int x.who,.int x.to,.int x.part,.int x.at_,.int x.sum,.int x.day,.int x.city,.int x.form]
@[simp] theorem aCO (x:Act):(gp x).cells=[.int x.kind,.int x.who,.int x.to,.int x.part,.int x.at_,.int x.sum,.int x.day,.int x.city,.int x.form]:=_root_.id rfl
@[simp] theorem aIo (x:Act):D.agg [.int x.kind,.int x.who,.int x.to,.int x.part,.int x.at_,.int x.sum,.int x.day,.int x.city,.int x.form]=gp x:=_root_.id rfl
@[simp] theorem aFp (x:Act):gM 9 (gp x)=gp x:=_root_.id rfl
@[simp] theorem aCF (x:Act):(gp x).c 0=.int x.kind:=_root_.id rfl
@[simp] theorem aCG (x:Act):(gp x).c 1=.int x.who:=_root_.id rfl
@[simp] theorem aCH (x:Act):(gp x).c 2=.int x.to:=_root_.id rfl
@[simp] theorem aCI (x:Act):(gp x).c 3=.int x.part:=_root_.id rfl
@[simp] theorem aCJ (x:Act):(gp x).c 4=.int x.at_:=_root_.id rfl
@[simp] theorem aCK (x:Act):(gp x).c 5=.int x.sum:=_root_.id rfl
@[simp] theorem aCL (x:Act):(gp x).c 6=.int x.day:=_root_.id rfl
@[simp] theorem aCM (x:Act):(gp x).c 7=.int x.city:=_root_.id rfl
@[simp] theorem aCN (x:Act):(gp x).c 8=.int x.form:=_root_.id rfl
def acts (l:List Act):D:=.list (l.map gp)
@[simp] theorem aFh (l:List Act):(acts l).l=l.map gp:=_root_.id rfl
@[simp] theorem aFg (l:List Act):(acts l).cells=[acts l]:=_root_.id rfl
abbrev VH:Ty:=.agg [.int .i64,.int .i64,.int .i64,.int .i64,.int .i64,.int .i64,.int .i64,.int .i64,.int .i64]
def Act.OK (x:Act):Prop:=aT x.kind∧aT x.who∧aT x.to∧aT x.part∧aT x.at_∧aT x.sum∧aT x.day∧aT x.city∧aT x.form
theorem Wg {d:D}(h:DTy VH d):∃x:Act,d=gp x∧x.OK:=by
 obtain⟨ds,rfl,hs⟩:=h.agg_inv;obtain⟨d0,ds,rfl,h0,hs⟩:=hs.cons_inv;obtain⟨d1,ds,rfl,h1,hs⟩:=hs.cons_inv;obtain⟨d2,ds,rfl,h2,hs⟩:=hs.cons_inv;obtain⟨d3,ds,rfl,h3,hs⟩:=hs.cons_inv;obtain⟨d4,ds,rfl,h4,hs⟩:=hs.cons_inv;obtain⟨d5,ds,rfl,h5,hs⟩:=hs.cons_inv;obtain⟨d6,ds,rfl,h6,hs⟩:=hs.cons_inv;obtain⟨d7,ds,rfl,h7,hs⟩:=hs.cons_inv;obtain⟨d8,ds,rfl,h8,hs⟩:=hs.cons_inv;obtain rfl:=hs.nil_inv;obtain⟨n0,rfl,b0⟩:=h0.i64_inv;obtain⟨n1,rfl,b1⟩:=h1.i64_inv;obtain⟨n2,rfl,b2⟩:=h2.i64_inv;obtain⟨n3,rfl,b3⟩:=h3.i64_inv;obtain⟨n4,rfl,b4⟩:=h4.i64_inv;obtain⟨n5,rfl,b5⟩:=h5.i64_inv;obtain⟨n6,rfl,b6⟩:=h6.i64_inv;obtain⟨n7,rfl,b7⟩:=h7.i64_inv;obtain⟨n8,rfl,b8⟩:=h8.i64_inv;exact⟨⟨n0,n1,n2,n3,n4,n5,n6,n7,n8⟩,rfl,⟨b0,b1,b2,b3,b4,b5,b6,b7,b8⟩⟩
theorem ahw {d:D}(h:DTy (.slice VH) d):∃l:List Act,d=acts l∧l.length≤maxLen∧∀y,y∈l→Act.OK y:=by
 obtain⟨xs,rfl,hm,hx⟩:=h.slice_inv;obtain⟨l,rfl,hl⟩:=jR (enc:=gp) (P:=Act.OK) fun x hh=>Wg (hx x hh);exact⟨l,rfl,by simpa using hm,hl⟩
structure Fact where
 kind:Int
 at_:Int
 n:Int
 deriving DecidableEq,Inhabited
def qX (x:Fact):D:=.agg [.int x.kind,.int x.at_,.int x.n]
@[simp] theorem aDz (x:Fact):(qX x).cells=[.int x.kind,.int x.at_,.int x.n]:=_root_.id rfl
@[simp] theorem aIw (x:Fact):D.agg [.int x.kind,.int x.at_,.int x.n]=qX x:=_root_.id rfl
@[simp] theorem aDw (x:Fact):(qX x).c 0=.int x.kind:=_root_.id rfl
@[simp] theorem aDx (x:Fact):(qX x).c 1=.int x.at_:=_root_.id rfl
@[simp] theorem aDy (x:Fact):(qX x).c 2=.int x.n:=_root_.id rfl
def facts (l:List Fact):D:=.list (l.map qX)
@[simp] theorem aG7 (l:List Fact):(facts l).l=l.map qX:=_root_.id rfl
@[simp] theorem aG6 (l:List Fact):(facts l).cells=[facts l]:=_root_.id rfl
abbrev VL:Ty:=.agg [.int .i64,.int .i64,.int .i64]
def Fact.OK (x:Fact):Prop:=aT x.kind∧aT x.at_∧aT x.n
theorem aoY {d:D}(h:DTy VL d):∃x:Fact,d=qX x∧x.OK:=by
 obtain⟨ds,rfl,hs⟩:=h.agg_inv;obtain⟨d0,ds,rfl,h0,hs⟩:=hs.cons_inv;obtain⟨d1,ds,rfl,h1,hs⟩:=hs.cons_inv;obtain⟨d2,ds,rfl,h2,hs⟩:=hs.cons_inv;obtain rfl:=hs.nil_inv;obtain⟨n0,rfl,b0⟩:=h0.i64_inv;obtain⟨n1,rfl,b1⟩:=h1.i64_inv;obtain⟨n2,rfl,b2⟩:=h2.i64_inv;exact⟨⟨n0,n1,n2⟩,rfl,⟨b0,b1,b2⟩⟩
theorem aoZ {d:D}(h:DTy (.slice VL) d):∃l:List Fact,d=facts l∧l.length≤maxLen∧∀y,y∈l→Fact.OK y:=by
 obtain⟨xs,rfl,hm,hx⟩:=h.slice_inv;obtain⟨l,rfl,hl⟩:=jR (enc:=qX) (P:=Fact.OK) fun x hh=>aoY (hx x hh);exact⟨l,rfl,by simpa using hm,hl⟩
structure File where
 bill:Bill
 signs:List Sign
 alters:List Alter
 acts:List Act
 facts:List Fact
 deriving Inhabited
def bT (x:File):D:=.agg [.int x.bill.drawer,.int x.bill.drawee,.int x.bill.payee,.int x.bill.sum,.int x.bill.currency,.int x.bill.tenor.kind,.int x.bill.tenor.n,.int x.bill.tenor.unit,.int x.bill.day,.int x.bill.city,.int x.bill.pay,.int x.bill.need,.int x.bill.rate,.int x.bill.flags,.int x.bill.parts,signs x.signs,alters x.alters,acts x.acts,facts x.facts]
@[simp] theorem aDK (x:File):(bT x).cells=[.int x.bill.drawer,.int x.bill.drawee,.int x.bill.payee,.int x.bill.sum,.int x.bill.currency,.int x.bill.tenor.kind,.int x.bill.tenor.n,.int x.bill.tenor.unit,.int x.bill.day,.int x.bill.city,.int x.bill.pay,.int x.bill.need,.int x.bill.rate,.int x.bill.flags,.int x.bill.parts,signs x.signs,alters x.alters,acts x.acts,facts x.facts]:=_root_.id rfl
@[simp] theorem aIx (x:File):D.agg [.int x.bill.drawer,.int x.bill.drawee,.int x.bill.payee,.int x.bill.sum,.int x.bill.currency,.int x.bill.tenor.kind,.int x.bill.tenor.n,.int x.bill.tenor.unit,.int x.bill.day,.int x.bill.city,.int x.bill.pay,.int x.bill.need,.int x.bill.rate,.int x.bill.flags,.int x.bill.parts,signs x.signs,alters x.alters,acts x.acts,facts x.facts]=bT x:=_root_.id rfl
@[simp] theorem aFt (x:File):gM 19 (bT x)=bT x:=_root_.id rfl
@[simp] theorem aIV (x:File)(a0 a1 a2 a3 a4 a5 a6 a7 a8 a9 gH gI gJ gK gL iV iW jC iX:D):D.agg (cH [a0,a1,a2,a3,a4,a5,a6,a7,a8,a9,gH,gI,gJ,gK,gL,iV,iW,jC,iX] 0 [.int x.bill.drawer,.int x.bill.drawee,.int x.bill.payee,.int x.bill.sum,.int x.bill.currency,.int x.bill.tenor.kind,.int x.bill.tenor.n,.int x.bill.tenor.unit,.int x.bill.day,.int x.bill.city,.int x.bill.pay,.int x.bill.need,.int x.bill.rate,.int x.bill.flags,.int x.bill.parts,signs x.signs,alters x.alters,acts x.acts,facts x.facts])=bT x:=_root_.id rfl
@[simp] theorem aDG (x:File):(bT x).c 3=.int x.bill.sum:=_root_.id rfl
@[simp] theorem aDH (x:File):(bT x).c 4=.int x.bill.currency:=_root_.id rfl
@[simp] theorem aDI (x:File):(bT x).c 5=.int x.bill.tenor.kind:=_root_.id rfl
@[simp] theorem aDJ (x:File):(bT x).c 8=.int x.bill.day:=_root_.id rfl
@[simp] theorem aDA (x:File):(bT x).c 12=.int x.bill.rate:=_root_.id rfl
@[simp] theorem aDB (x:File):(bT x).c 14=.int x.bill.parts:=_root_.id rfl
@[simp] theorem aDC (x:File):(bT x).c 15=signs x.signs:=_root_.id rfl
@[simp] theorem aDD (x:File):(bT x).c 16=alters x.alters:=_root_.id rfl
@[simp] theorem aDE (x:File):(bT x).c 17=acts x.acts:=_root_.id rfl
@[simp] theorem aDF (x:File):(bT x).c 18=facts x.facts:=_root_.id rfl
abbrev aB1:Ty:=.agg [.int .i64,.int .i64,.int .i64,.int .i64,.int .i64,.int .i64,.int .i64,.int .i64,.int .i64,.int .i64,.int .i64,.int .i64,.int .i64,.int .i64,.int .i64,.slice VS,.slice VI,.slice VH,.slice VL]
def File.OK (x:File):Prop:=Bill.OK x.bill∧(x.signs.length≤maxLen∧∀y,y∈x.signs→Sign.OK y)∧(x.alters.length≤maxLen∧∀y,y∈x.alters→Alter.OK y)∧(x.acts.length≤maxLen∧∀y,y∈x.acts→Act.OK y)∧(x.facts.length≤maxLen∧∀y,y∈x.facts→Fact.OK y)
theorem GP {d:D}(h:DTy aB1 d):∃x:File,d=bT x∧x.OK:=by
 obtain⟨ds,rfl,hs⟩:=h.agg_inv;obtain⟨d0,ds,rfl,h0,hs⟩:=hs.cons_inv;obtain⟨d1,ds,rfl,h1,hs⟩:=hs.cons_inv;obtain⟨d2,ds,rfl,h2,hs⟩:=hs.cons_inv;obtain⟨d3,ds,rfl,h3,hs⟩:=hs.cons_inv;obtain⟨d4,ds,rfl,h4,hs⟩:=hs.cons_inv;obtain⟨d5,ds,rfl,h5,hs⟩:=hs.cons_inv;obtain⟨d6,ds,rfl,h6,hs⟩:=hs.cons_inv;obtain⟨d7,ds,rfl,h7,hs⟩:=hs.cons_inv;obtain⟨d8,ds,rfl,h8,hs⟩:=hs.cons_inv;obtain⟨d9,ds,rfl,h9,hs⟩:=hs.cons_inv;obtain⟨d10,ds,rfl,gP,hs⟩:=hs.cons_inv;obtain⟨d11,ds,rfl,rj,hs⟩:=hs.cons_inv;obtain⟨d12,ds,rfl,BJ,hs⟩:=hs.cons_inv;obtain⟨d13,ds,rfl,h13,hs⟩:=hs.cons_inv;obtain⟨d14,ds,rfl,h14,hs⟩:=hs.cons_inv;obtain⟨d15,ds,rfl,G0,hs⟩:=hs.cons_inv;obtain⟨d16,ds,rfl,G1,hs⟩:=hs.cons_inv;obtain⟨d17,ds,rfl,G3,hs⟩:=hs.cons_inv;obtain⟨d18,ds,rfl,G4,hs⟩:=hs.cons_inv;obtain rfl:=hs.nil_inv;obtain⟨n0,rfl,b0⟩:=h0.i64_inv;obtain⟨n1,rfl,b1⟩:=h1.i64_inv;obtain⟨n2,rfl,b2⟩:=h2.i64_inv;obtain⟨n3,rfl,b3⟩:=h3.i64_inv;obtain⟨n4,rfl,b4⟩:=h4.i64_inv;obtain⟨n5,rfl,b5⟩:=h5.i64_inv;obtain⟨n6,rfl,b6⟩:=h6.i64_inv;obtain⟨n7,rfl,b7⟩:=h7.i64_inv;obtain⟨n8,rfl,b8⟩:=h8.i64_inv;obtain⟨n9,rfl,b9⟩:=h9.i64_inv;obtain⟨n10,rfl,b10⟩:=gP.i64_inv;obtain⟨n11,rfl,b11⟩:=rj.i64_inv;obtain⟨n12,rfl,b12⟩:=BJ.i64_inv;obtain⟨n13,rfl,b13⟩:=h13.i64_inv;obtain⟨n14,rfl,b14⟩:=h14.i64_inv;obtain⟨n15,rfl,b15,c15⟩:=azr G0;obtain⟨n16,rfl,b16,c16⟩:=ahE G1;obtain⟨n17,rfl,b17,c17⟩:=ahw G3;obtain⟨n18,rfl,b18,c18⟩:=aoZ G4;exact⟨⟨⟨n0,n1,n2,n3,n4,⟨n5,n6,n7⟩,n8,n9,n10,n11,n12,n13,n14⟩,n15,n16,n17,n18⟩,rfl,⟨⟨b0,b1,b2,b3,b4,⟨b5,b6,b7⟩,b8,b9,b10,b11,b12,b13,b14⟩,⟨b15,c15⟩,⟨b16,c16⟩,⟨b17,c17⟩,⟨b18,c18⟩⟩⟩
structure Case where
 file:File
 sign:Int
 holder:Int
 defence:Int
 due:Int
 day:Int
 deriving Inhabited
def eN (x:Case):D:=.agg [.int x.file.bill.drawer,.int x.file.bill.drawee,.int x.file.bill.payee,.int x.file.bill.sum,.int x.file.bill.currency,.int x.file.bill.tenor.kind,.int x.file.bill.tenor.n,.int x.file.bill.tenor.unit,.int x.file.bill.day,.int x.file.bill.city,.int x.file.bill.pay,.int x.file.bill.need,.int x.file.bill.rate,.int x.file.bill.flags,.int x.file.bill.parts,signs x.file.signs,alters x.file.alters,acts x.file.acts,facts x.file.facts,.int x.sign,.int x.holder,.int x.defence,.int x.due,.int x.day]
@[simp] theorem aDg (x:Case):(eN x).cells=[.int x.file.bill.drawer,.int x.file.bill.drawee,.int x.file.bill.payee,.int x.file.bill.sum,.int x.file.bill.currency,.int x.file.bill.tenor.kind,.int x.file.bill.tenor.n,.int x.file.bill.tenor.unit,.int x.file.bill.day,.int x.file.bill.city,.int x.file.bill.pay,.int x.file.bill.need,.int x.file.bill.rate,.int x.file.bill.flags,.int x.file.bill.parts,signs x.file.signs,alters x.file.alters,acts x.file.acts,facts x.file.facts,.int x.sign,.int x.holder,.int x.defence,.int x.due,.int x.day]:=_root_.id rfl
@[simp] theorem aIr (x:Case):D.agg [.int x.file.bill.drawer,.int x.file.bill.drawee,.int x.file.bill.payee,.int x.file.bill.sum,.int x.file.bill.currency,.int x.file.bill.tenor.kind,.int x.file.bill.tenor.n,.int x.file.bill.tenor.unit,.int x.file.bill.day,.int x.file.bill.city,.int x.file.bill.pay,.int x.file.bill.need,.int x.file.bill.rate,.int x.file.bill.flags,.int x.file.bill.parts,signs x.file.signs,alters x.file.alters,acts x.file.acts,facts x.file.facts,.int x.sign,.int x.holder,.int x.defence,.int x.due,.int x.day]=eN x:=_root_.id rfl
@[simp] theorem ahC (x:Case):gM 24 (eN x)=eN x:=_root_.id rfl
@[simp] theorem axS (x:Case)(a0 a1 a2 a3 a4 a5 a6 a7 a8 a9 gH gI gJ gK gL iV iW jC iX zL zM zN zO zP:D):D.agg (cH [a0,a1,a2,a3,a4,a5,a6,a7,a8,a9,gH,gI,gJ,gK,gL,iV,iW,jC,iX,zL,zM,zN,zO,zP] 0 [.int x.file.bill.drawer,.int x.file.bill.drawee,.int x.file.bill.payee,.int x.file.bill.sum,.int x.file.bill.currency,.int x.file.bill.tenor.kind,.int x.file.bill.tenor.n,.int x.file.bill.tenor.unit,.int x.file.bill.day,.int x.file.bill.city,.int x.file.bill.pay,.int x.file.bill.need,.int x.file.bill.rate,.int x.file.bill.flags,.int x.file.bill.parts,signs x.file.signs,alters x.file.alters,acts x.file.acts,facts x.file.facts,.int x.sign,.int x.holder,.int x.defence,.int x.due,.int x.day])=eN x:=_root_.id rfl
@[simp] theorem aDf (x:Case):(eN x).c 9=.int x.file.bill.city:=_root_.id rfl
@[simp] theorem aC8 (x:Case):(eN x).c 10=.int x.file.bill.pay:=_root_.id rfl
@[simp] theorem aC9 (x:Case):(eN x).c 15=signs x.file.signs:=_root_.id rfl
@[simp] theorem aDa (x:Case):(eN x).c 19=.int x.sign:=_root_.id rfl
@[simp] theorem aDb (x:Case):(eN x).c 20=.int x.holder:=_root_.id rfl
@[simp] theorem aDc (x:Case):(eN x).c 21=.int x.defence:=_root_.id rfl
@[simp] theorem aDd (x:Case):(eN x).c 22=.int x.due:=_root_.id rfl
@[simp] theorem aDe (x:Case):(eN x).c 23=.int x.day:=_root_.id rfl
def cases(l:List Case):D:=.list (l.map eN)
structure Cell where
 known:Bool
 n:Int
 deriving DecidableEq,Inhabited
def cM (x:Cell):D:=.agg [.bool x.known,.int x.n]
@[simp] theorem aDj (x:Cell):(cM x).cells=[.bool x.known,.int x.n]:=_root_.id rfl
@[simp] theorem aIs (x:Cell):D.agg [.bool x.known,.int x.n]=cM x:=_root_.id rfl
@[simp] theorem aDh (x:Cell):(cM x).c 0=.bool x.known:=_root_.id rfl
@[simp] theorem aDi (x:Cell):(cM x).c 1=.int x.n:=_root_.id rfl
def cells (l:List Cell):D:=.list (l.map cM)
@[simp] theorem aFT (l:List Cell):(cells l).l=l.map cM:=_root_.id rfl
@[simp] theorem aFS (l:List Cell):(cells l).cells=[cells l]:=_root_.id rfl
structure Said where
 cell:Cell
 order:Int
 path:List Int
 err:Int
 deriving Inhabited
def nf (x:Said):D:=.agg [.bool x.cell.known,.int x.cell.n,.int x.order,ints x.path,.int x.err]
@[simp] theorem aEp (x:Said):(nf x).cells=[.bool x.cell.known,.int x.cell.n,.int x.order,ints x.path,.int x.err]:=_root_.id rfl
@[simp] theorem aIG (x:Said):D.agg [.bool x.cell.known,.int x.cell.n,.int x.order,ints x.path,.int x.err]=nf x:=_root_.id rfl
@[simp] theorem aFx (x:Said):gM 5 (nf x)=nf x:=_root_.id rfl
structure Effect where
 sign:Int
 kind:Int
 firm:Int
 binds:Int
 text:Int
 sum:Int
 recourse:Bool
 deriving DecidableEq,Inhabited
def uQ (x:Effect):D:=.agg [.int x.sign,.int x.kind,.int x.firm,.int x.binds,.int x.text,.int x.sum,.bool x.recourse]
@[simp] theorem aDv (x:Effect):(uQ x).cells=[.int x.sign,.int x.kind,.int x.firm,.int x.binds,.int x.text,.int x.sum,.bool x.recourse]:=_root_.id rfl
@[simp] theorem aIv (x:Effect):D.agg [.int x.sign,.int x.kind,.int x.firm,.int x.binds,.int x.text,.int x.sum,.bool x.recourse]=uQ x:=_root_.id rfl
@[simp] theorem aFs (x:Effect):gM 7 (uQ x)=uQ x:=_root_.id rfl
@[simp] theorem aDu (x:Effect):(uQ x).c 5=.int x.sum:=_root_.id rfl
@[simp] theorem aJL (a0 x0:D):cH [a0] 0 [x0]=[x0]:=_root_.id rfl
@[simp] theorem aJM (a0 a1 x0 x1:D):cH [a0,a1] 0 [x0,x1]=[x0,x1]:=_root_.id rfl
@[simp] theorem aJN (a0 a1 a2 x0 x1 x2:D):cH [a0,a1,a2] 0 [x0,x1,x2]=[x0,x1,x2]:=_root_.id rfl
@[simp] theorem aJO (a0 a1 a2 a3 x0 x1 x2 x3:D):cH [a0,a1,a2,a3] 0 [x0,x1,x2,x3]=[x0,x1,x2,x3]:=_root_.id rfl
@[simp] theorem aJP (a0 a1 a2 a3 a4 x0 x1 x2 x3 x4:D):cH [a0,a1,a2,a3,a4] 0 [x0,x1,x2,x3,x4]=[x0,x1,x2,x3,x4]:=_root_.id rfl
@[simp] theorem aJQ (a0 a1 a2 a3 a4 a5 x0 x1 x2 x3 x4 x5:D):cH [a0,a1,a2,a3,a4,a5] 0 [x0,x1,x2,x3,x4,x5]=[x0,x1,x2,x3,x4,x5]:=_root_.id rfl
@[simp] theorem aJR (a0 a1 a2 a3 a4 a5 a6 x0 x1 x2 x3 x4 x5 x6:D):cH [a0,a1,a2,a3,a4,a5,a6] 0 [x0,x1,x2,x3,x4,x5,x6]=[x0,x1,x2,x3,x4,x5,x6]:=_root_.id rfl
@[simp] theorem aJS (a0 a1 a2 a3 a4 a5 a6 a7 a8 x0 x1 x2 x3 x4 x5 x6 x7 x8:D):cH [a0,a1,a2,a3,a4,a5,a6,a7,a8] 0 [x0,x1,x2,x3,x4,x5,x6,x7,x8]=[x0,x1,x2,x3,x4,x5,x6,x7,x8]:=_root_.id rfl
end Rm
set_option maxRecDepth 100000
namespace Rm
open Go Go.Proofs Cx
abbrev I:Ty:=.int .i64
abbrev Y0:Ty:=.agg [.str,I,I,(.slice I),(.slice I),(.slice I)]
abbrev Y1:Ty:=.agg [I]
abbrev Y2:Ty:=.agg [.str,I,I]
abbrev Y3:Ty:=.agg [I,I,.bool]
abbrev Y4:Ty:=.agg [I,I,I,(.slice .trm)]
abbrev Y5:Ty:=.agg [.str,.bool,(.slice Y3),(.slice Y4)]
abbrev Y6:Ty:=.agg [I,I,I]
abbrev Y7:Ty:=.agg [I,I,I,I,I]
abbrev Y8:Ty:=.agg [(.slice .str),(.slice Y0),(.slice Y1),(.slice Y2),(.slice Y5),(.slice Y6),(.slice Y7),(.slice Y6)]
abbrev Y9:Ty:=.agg [I,I,I,I,I,I,I,I,I]
abbrev kY:Ty:=.agg [I,I]
abbrev dW:Ty:=.agg [I,I,I,I,I,I,I,I,I,I,I,I,I,I,I,(.slice Y9),(.slice kY),(.slice Y9),(.slice Y6)]
abbrev zJ:Ty:=.agg [.bool,I,I,(.slice I),I]
abbrev pA:Ty:=.agg [I,I,I,I,I,I,I,I,I,I,I,I,I,I,I,(.slice Y9),(.slice kY),(.slice Y9),(.slice Y6),I,I,I,I,I]
abbrev V9:Ty:=.agg [I,I,I,I,I,I,I]
abbrev Wa:Ty:=.agg [I,I,I,I,I,I,.bool]
abbrev zK:Ty:=.agg [I,I,I,I,I,I,I,I,I,I,I,I,I,I,I]
abbrev ky:Ty:=.agg [.bool,I]
abbrev EG:Ty:=.agg [(.slice .str),(.slice Y0),(.slice Y1),(.slice Y2),(.slice Y5),(.slice Y6),(.slice Y7),(.slice Y6),I,I,I,I,I,I,I,I,I,I,I,I,I,I,I,I,I,(.slice Y9),(.slice kY),(.slice Y9),(.slice Y6),I,I]
abbrev qM:Ty:=.agg [I,I,(.slice .trm)]
abbrev Wb:Ty:=.agg [(.slice ky)]
abbrev Wc:Ty:=.agg [(.int .u64),(.int .u64)]
abbrev Y22:Ty:=.agg [(.slice I),I]
def ae:List (Nat×Sig):=[
 (10,⟨[Y8,I,dW,I,I,(.int .u64)],.bool,.dat⟩),
 (11,⟨[Y8,I,dW,I,I],.bool,.dat⟩),
 (12,⟨[Y8,I,dW,I,I,Y9],.bool,.dat⟩),
 (13,⟨[Y8,I,dW,I,I,I],.bool,.dat⟩),
 (20,⟨[dW,I],dW,.dat⟩),
 (21,⟨[dW,I,I],.bool,.dat⟩),
 (32,⟨[Y8,I,dW,I],I,.dat⟩),
 (33,⟨[zJ],I,.dat⟩),
 (34,⟨[Y8,I,I,pA],zJ,.dat⟩),
 (37,⟨[],.bool,.dat⟩),
 (38,⟨[Y8,dW],.bool,.dat⟩),
 (39,⟨[Y8,I,dW,I,I],V9,.dat⟩),
 (40,⟨[Y8,I,dW,I,I],(.tup [Wa,.bool]),.dat⟩),
 (41,⟨[I,I,I,I,I],(.tup [I,I]),.dat⟩),
 (43,⟨[Y8,dW],.bool,.dat⟩),
 (45,⟨[(.slice I),I],.bool,.dat⟩),
 (54,⟨[I,I],.bool,.dat⟩),
 (55,⟨[dW,I],(.map I .bool),.dat⟩),
 (56,⟨[zJ],I,.dat⟩),
 (57,⟨[Y8,I,I,dW,I],zJ,.dat⟩),
 (58,⟨[Y8,dW],I,.dat⟩),
 (80,⟨[Y8,zK,I,I],(.tup [I,I]),.dat⟩),
 (81,⟨[dW],I,.dat⟩),
 (82,⟨[Y8,I,I,pA],(.tup [zJ,(.slice ky)]),.dat⟩),
 (83,⟨[Y5,I,(.slice ky)],(.tup [ky,I]),.dat⟩),
 (84,⟨[Y8,I,dW,I],EG,.dat⟩),
 (85,⟨[EG,I],Wa,.dat⟩),
 (86,⟨[I,I],(.tup [Y8,dW]),.dat⟩),
 (87,⟨[Y8,I,I,I],(.tup [kY,.bool]),.dat⟩),
 (88,⟨[I,I,I,V9],.bool,.dat⟩),
 (89,⟨[Y8],I,.dat⟩),
 (90,⟨[dW],.bool,.dat⟩),
 (91,⟨[I,I,I,I],I,.dat⟩),
 (92,⟨[Y8,zK,I,I,I,I],I,.dat⟩),
 (93,⟨[I,I],.bool,.dat⟩),
 (94,⟨[I,I,I],(.tup [I,I,.bool]),.dat⟩),
 (95,⟨[Y8],.bool,.dat⟩),
 (96,⟨[dW],.bool,.dat⟩),
 (97,⟨[Y5],.bool,.dat⟩),
 (103,⟨[(.slice I),I],I,.dat⟩),
 (112,⟨[Y8,zK],I,.dat⟩),
 (113,⟨[Y8,dW,I],I,.dat⟩),
 (114,⟨[I,I,I],.bool,.dat⟩),
 (115,⟨[Y8,dW],I,.dat⟩),
 (116,⟨[dW],I,.dat⟩),
 (124,⟨[Y8,I],.bool,.dat⟩),
 (125,⟨[I],.bool,.dat⟩),
 (126,⟨[Y6],.bool,.dat⟩),
 (127,⟨[Y8,zK,I],(.tup [I,I]),.dat⟩),
 (128,⟨[Y8,I,I],(.tup [I,I]),.dat⟩),
 (129,⟨[(.slice I)],I,.dat⟩),
 (130,⟨[Y8,pA],(.tup [pA,(.slice ky)]),.dat⟩),
 (131,⟨[I],(.tup [I,.bool]),.dat⟩),
 (132,⟨[Y8,I,pA],(.nsl I),.dat⟩),
 (133,⟨[Y8,I,I,(.slice I)],(.tup [(.slice I),I]),.dat⟩),
 (134,⟨[Y5,I],(.tup [qM,I]),.dat⟩),
 (135,⟨[qM,(.slice ky)],ky,.dat⟩),
 (136,⟨[(.slice I)],I,.dat⟩),
 (137,⟨[EG,I,I],I,.dat⟩),
 (138,⟨[EG,I],(.tup [I,I]),.dat⟩),
 (139,⟨[(.slice Y7),I,I,I],I,.dat⟩),
 (140,⟨[I,I],(.tup [kY,I]),.dat⟩),
 (141,⟨[Y8],(.tup [(.slice .str),(.slice .str),(.slice .str)]),.dat⟩),
 (142,⟨[(.slice .str),I,(.fn [I] .bool)],I,.dat⟩),
 (143,⟨[I],.bool,.dat⟩),
 (144,⟨[I,(.ref Y8)],.bool,.dat⟩),
 (145,⟨[Y8,Y0],.bool,.dat⟩),
 (146,⟨[I,I],.bool,.dat⟩),
 (147,⟨[I,(.ref Y8)],.bool,.dat⟩),
 (148,⟨[I,(.ref Y8)],.bool,.dat⟩),
 (149,⟨[Y5],.bool,.dat⟩),
 (150,⟨[Y8],I,.dat⟩),
 (151,⟨[Y8],I,.dat⟩),
 (152,⟨[I,kY,kY],I,.dat⟩),
 (153,⟨[(.int .u64),(.int .u64)],(.tup [(.int .u64),(.int .u64)]),.dat⟩),
 (154,⟨[(.int .u64),(.int .u64),(.int .u64)],(.tup [(.int .u64),(.int .u64)]),.dat⟩),
 (155,⟨[qM],.bool,.dat⟩),
 (161,⟨[I,I],.bool,.dat⟩),
 (162,⟨[zK],.bool,.dat⟩),
 (163,⟨[Y8,I,I],(.tup [I,I]),.dat⟩),
 (164,⟨[Y8,dW,I],.bool,.dat⟩),
 (165,⟨[Y8,dW,Y9],.bool,.dat⟩),
 (166,⟨[(.slice I)],I,.dat⟩),
 (167,⟨[I,I],I,.dat⟩),
 (169,⟨[I,Y6],(.tup [I,I]),.dat⟩),
 (170,⟨[Y8,I],I,.dat⟩),
 (171,⟨[Y8,I,I],I,.dat⟩),
 (172,⟨[Y0,I],(.tup [I,I]),.dat⟩),
 (173,⟨[Y8,pA],(.slice ky),.dat⟩),
 (174,⟨[Y8,I,I,(.slice I)],.bool,.dat⟩),
 (175,⟨[Y8,I,I,(.slice I)],(.tup [I,.bool]),.dat⟩),
 (176,⟨[(.slice Y4),(.fn [Y4] .bool)],I,.dat⟩),
 (177,⟨[Y4,(.ref I)],.bool,.dat⟩),
 (178,⟨[qM],(.tup [I,I]),.dat⟩),
 (179,⟨[Wb,qM],(.tup [ky,(.slice I)]),.dat⟩),
 (180,⟨[dW,I],I,.dat⟩),
 (181,⟨[I],(.int .u64),.dat⟩),
 (182,⟨[(.int .u64),(.int .u64)],(.int .u64),.dat⟩),
 (183,⟨[.bool,Wc,Wc],(.tup [kY,I]),.dat⟩),
 (184,⟨[(.slice .str),I],I,.dat⟩),
 (185,⟨[(.slice I),I,I],.bool,.dat⟩),
 (186,⟨[(.int .u64)],I,.dat⟩),
 (187,⟨[qM,I,I],I,.dat⟩),
 (191,⟨[dW,I,(.slice I)],.bool,.dat⟩),
 (192,⟨[dW,I,I],.bool,.dat⟩),
 (193,⟨[I],.bool,.dat⟩),
 (194,⟨[I],.bool,.dat⟩),
 (195,⟨[I,I],(.tup [I,I]),.dat⟩),
 (196,⟨[Y0,I,I],(.fn [(.fn [I] .bool)] (.tup [])),.dat⟩),
 (197,⟨[(.slice kY),(.fn [kY] .bool)],.bool,.dat⟩),
 (198,⟨[kY,(.ref pA)],.bool,.dat⟩),
 (199,⟨[.bool],ky,.dat⟩),
 (200,⟨[dW,I,I],ky,.dat⟩),
 (201,⟨[(.slice I),(.fn [I] .bool)],.bool,.dat⟩),
 (202,⟨[I,(.ref I)],.bool,.dat⟩),
 (203,⟨[qM,I],I,.dat⟩),
 (204,⟨[qM],(.tup [I,I]),.dat⟩),
 (205,⟨[Wb,I],ky,.dat⟩),
 (206,⟨[I,(.slice ky)],ky,.dat⟩),
 (207,⟨[(.slice (.slice I))],(.slice I),.dat⟩),
 (208,⟨[.str],.bool,.dat⟩),
 (209,⟨[(.slice .str),.str],.bool,.dat⟩),
 (210,⟨[(.int .u64)],I,.dat⟩),
 (212,⟨[I],(.tup [I,I,I]),.dat⟩),
 (213,⟨[I,I,I],(.tup [I,I]),.dat⟩),
 (214,⟨[I,I],I,.dat⟩),
 (216,⟨[Y0,I],.bool,.dat⟩),
 (217,⟨[(.slice kY),(.fn [kY] .bool)],I,.dat⟩),
 (218,⟨[(.slice I),(.fn [I] .bool)],I,.dat⟩),
 (219,⟨[qM],(.tup [I,I]),.dat⟩),
 (220,⟨[I],Y22,.dat⟩),
 (221,⟨[I],(.tup [I,.bool]),.dat⟩),
 (222,⟨[.bool],ky,.dat⟩),
 (223,⟨[I],I,.dat⟩),
 (224,⟨[I,I,I],I,.dat⟩),
 (225,⟨[.nils .bool,I],(.slice I),(.row 3 I)⟩),
 (226,⟨[(.slice .str),.str],I,.dat⟩),
 (227,⟨[I,I,I],I,.dat⟩),
 (228,⟨[I,I],I,.dat⟩)]
def NX:List (Nat×CSig):=[
 (143,⟨[],[I],.bool⟩),
 (144,⟨[(.ref Y8)],[I],.bool⟩),
 (147,⟨[(.ref Y8)],[I],.bool⟩),
 (148,⟨[(.ref Y8)],[I],.bool⟩),
 (177,⟨[(.ref I)],[Y4],.bool⟩),
 (198,⟨[(.ref pA)],[kY],.bool⟩),
 (202,⟨[(.ref I)],[I],.bool⟩),
 (215,⟨[(.ref I),(.ref I),(.ref Y0)],[(.fn [I] .bool)],(.tup [])⟩)]
abbrev abq:Nat:=10
abbrev abr:Nat:=11
abbrev abo:Nat:=12
abbrev abp:Nat:=13
abbrev ab7:Nat:=20
abbrev acJ:Nat:=21
abbrev aaV:Nat:=32
abbrev aaX:Nat:=33
abbrev QG:Nat:=34
abbrev abv:Nat:=37
abbrev abu:Nat:=38
abbrev aaO:Nat:=39
abbrev aa0:Nat:=40
abbrev abx:Nat:=41
abbrev abR:Nat:=43
abbrev aci:Nat:=45
abbrev ace:Nat:=54
abbrev acK:Nat:=55
abbrev aaW:Nat:=56
abbrev aaU:Nat:=57
abbrev abD:Nat:=58
abbrev CU:Nat:=80
abbrev ab9:Nat:=81
abbrev aaY:Nat:=82
abbrev abA:Nat:=83
abbrev aa1:Nat:=84
abbrev aa2:Nat:=85
abbrev abt:Nat:=86
abbrev aaP:Nat:=87
abbrev abw:Nat:=88
abbrev abV:Nat:=89
abbrev QL:Nat:=90
abbrev aaR:Nat:=91
abbrev aaQ:Nat:=92
abbrev abz:Nat:=93
abbrev aby:Nat:=94
abbrev abM:Nat:=95
abbrev abN:Nat:=96
abbrev abQ:Nat:=97
abbrev aco:Nat:=103
abbrev acL:Nat:=112
abbrev abK:Nat:=113
abbrev CT:Nat:=114
abbrev abG:Nat:=115
abbrev abI:Nat:=116
abbrev acu:Nat:=124
abbrev Ij:Nat:=125
abbrev acr:Nat:=126
abbrev CV:Nat:=127
abbrev Ik:Nat:=128
abbrev acq:Nat:=129
abbrev aaZ:Nat:=130
abbrev abB:Nat:=131
abbrev awY:Nat:=132
abbrev abl:Nat:=133
abbrev abC:Nat:=134
abbrev acx:Nat:=135
abbrev QH:Nat:=136
abbrev aa3:Nat:=137
abbrev aa4:Nat:=138
abbrev aaT:Nat:=139
abbrev QM:Nat:=140
abbrev ab2:Nat:=141
abbrev abY:Nat:=142
abbrev QN:Nat:=143
abbrev QO:Nat:=144
abbrev abX:Nat:=145
abbrev abZ:Nat:=146
abbrev QP:Nat:=147
abbrev QR:Nat:=148
abbrev ab3:Nat:=149
abbrev ab6:Nat:=150
abbrev ab4:Nat:=151
abbrev aaS:Nat:=152
abbrev aa8:Nat:=153
abbrev aa5:Nat:=154
abbrev abO:Nat:=155
abbrev acM:Nat:=161
abbrev acN:Nat:=162
abbrev QS:Nat:=163
abbrev abJ:Nat:=164
abbrev abF:Nat:=165
abbrev abj:Nat:=166
abbrev abi:Nat:=167
abbrev acs:Nat:=169
abbrev abW:Nat:=170
abbrev acv:Nat:=171
abbrev abb:Nat:=172
abbrev aca:Nat:=173
abbrev abn:Nat:=174
abbrev abm:Nat:=175
abbrev acm:Nat:=176
abbrev QK:Nat:=177
abbrev acw:Nat:=178
abbrev QT:Nat:=179
abbrev abE:Nat:=180
abbrev abS:Nat:=181
abbrev abT:Nat:=182
abbrev abU:Nat:=183
abbrev ab1:Nat:=184
abbrev ab5:Nat:=185
abbrev aa6:Nat:=186
abbrev abP:Nat:=187
abbrev abH:Nat:=191
abbrev abL:Nat:=192
abbrev abk:Nat:=193
abbrev abh:Nat:=194
abbrev aa9:Nat:=195
abbrev abd:Nat:=196
abbrev acg:Nat:=197
abbrev acb:Nat:=198
abbrev acd:Nat:=199
abbrev ab8:Nat:=200
abbrev ach:Nat:=201
abbrev QJ:Nat:=202
abbrev acF:Nat:=203
abbrev acA:Nat:=204
abbrev acE:Nat:=205
abbrev acB:Nat:=206
abbrev acf:Nat:=207
abbrev ab0:Nat:=208
abbrev acj:Nat:=209
abbrev aa7:Nat:=210
abbrev abc:Nat:=212
abbrev aba:Nat:=213
abbrev abf:Nat:=214
abbrev abe:Nat:=215
abbrev abg:Nat:=216
abbrev ack:Nat:=217
abbrev acn:Nat:=218
abbrev acD:Nat:=219
abbrev acH:Nat:=220
abbrev acy:Nat:=221
abbrev acI:Nat:=222
abbrev acC:Nat:=223
abbrev acz:Nat:=224
abbrev acp:Nat:=226
abbrev QI:Nat:=227
abbrev acG:Nat:=228
noncomputable def ctx:Ctx:={P:=Tryz.prog,cap:=aa NX,sig:=aa ae,awO:=fun _=>none,glob:=Tv 0 [6,7,10,12,13,14,15,16,20,21]}
abbrev jt:PE:=.con (.agg [(.int 0),(.int 0),(.int 0),(.int 0),(.int 0),(.int 0),(.int 0),(.int 0),(.int 0),(.int 0),(.int 0),(.int 0),(.int 0),(.int 0),(.int 0),(.list []),(.list []),(.list []),(.list [])])
abbrev wu:PE:=.ai .quo .i64 (bJ (aH (bJ (.ai .rem .i64 (aH r0 (pi 730425)) (pi 146097)) (.ai .quo .i64 (.ai .rem .i64 (aH r0 (pi 730425)) (pi 146097)) (pi 1460))) (.ai .quo .i64 (.ai .rem .i64 (aH r0 (pi 730425)) (pi 146097)) (pi 36524))) (.ai .quo .i64 (.ai .rem .i64 (aH r0 (pi 730425)) (pi 146097)) (pi 146096))) (pi 365)
abbrev km:PE:=.con (.v (.string ⟨#[0,1,2,2,3,3,3,3,4,4,4,4,4,4,4,4,5,5,5,5,5,5,5,5,5,5,5,5,5,5,5,5,6,6,6,6,6,6,6,6,6,6,6,6,6,6,6,6,6,6,6,6,6,6,6,6,6,6,6,6,6,6,6,6,7,7,7,7,7,7,7,7,7,7,7,7,7,7,7,7,7,7,7,7,7,7,7,7,7,7,7,7,7,7,7,7,7,7,7,7,7,7,7,7,7,7,7,7,7,7,7,7,7,7,7,7,7,7,7,7,7,7,7,7,7,7,7,7,8,8,8,8,8,8,8,8,8,8,8,8,8,8,8,8,8,8,8,8,8,8,8,8,8,8,8,8,8,8,8,8,8,8,8,8,8,8,8,8,8,8,8,8,8,8,8,8,8,8,8,8,8,8,8,8,8,8,8,8,8,8,8,8,8,8,8,8,8,8,8,8,8,8,8,8,8,8,8,8,8,8,8,8,8,8,8,8,8,8,8,8,8,8,8,8,8,8,8,8,8,8,8,8,8,8,8,8,8,8,8,8,8,8,8,8,8,8,8,8,8,8,8,8,8,8,8,8]⟩))
abbrev kN:PE:=.setc (.setc (.setc jt 0 (.mk [(.mk [(pi 0),(pi 1),(pi 1),(pi 1000),(pi 0),(.mk [(pi 3),(pi 100),(pi 0)]),(pi 10),(pi 0),(pi 0),(pi (-1)),(pi 60),(pi 0),(pi 1)]),pL,pL,pL,pL])) 15 pN) 17 pN
abbrev wz:PE:=.ai .or .u64 (.ai .shl .u64 r0 (.conv .u64 nN)) (.ai .shr .u64 r1 (.ai .sub .u64 (.con (.v (.int .u64 64))) (.conv .u64 nN)))
abbrev fE:PE:=.con (.agg [(.bool false),(.int 0)])
abbrev Lx:PE:=.setc (.setc (.setc (.con (.agg [(.list []),(.list []),(.list []),(.list []),(.list []),(.list []),(.list []),(.list [])])) 0 (.mk [(.lst [(.con (.v (.string ⟨#[102,114,97,110,99]⟩))),(.con (.v (.string ⟨#[112,111,117,110,100]⟩)))]),(.lst [(.mk [(.con (.v (.string ⟨#[76,121,111,110]⟩))),(pi 0),(pi 0),pL,pL,pL]),(.mk [(.con (.v (.string ⟨#[76,111,110,100,111,110]⟩))),(pi 0),(pi 1),pL,pL,pL])]),(.lst [(.mk [(pi 0)])]),(.lst [(.mk [(.con (.v (.string ⟨#[65]⟩))),(pi 1),(pi 0)]),(.mk [(.con (.v (.string ⟨#[66]⟩))),(pi 0),(pi 0)])]),pL,pL,pL,pL])) 4 pN) 6 pN
abbrev qu:PE:=.ai .sub .u64 (.ai .add .u64 (.ai .mul .u64 bp (.con (.v (.int .u64 4294967296)))) cB) (.ai .mul .u64 cm r2)
abbrev oW:PE:=.ai .shr .u64 (.ai .shl .u64 r2 (.conv .u64 nN)) (.con (.v (.int .u64 32)))
abbrev Lb:PE:=.ai .quo .i64 (aH (.ai .mul .i64 (pi 5) (bJ (.ai .rem .i64 (aH r0 (pi 730425)) (pi 146097)) (bJ (aH (.ai .mul .i64 (pi 365) wu) (.ai .quo .i64 wu (pi 4))) (.ai .quo .i64 wu (pi 100))))) (pi 2)) (pi 153)
abbrev qt:PE:=.deref (.con (.ref (.agg [(.int 6),(.int 7),(.int 10),(.int 12),(.int 13),(.int 14),(.int 15),(.int 16),(.int 20),(.int 21)])))
abbrev kl:PE:=.setc z3 0 (.mk [(pc (.mk [r0]) 5),(pc (.mk [r0]) 6),(pc (.mk [r0]) 7)])
abbrev Lm:PE:=.put (.put (.put (.put (.con (.map [])) (pi 7) (aL (.ai .and .i64 (pc o6 13) (pi 1)) (pi 0))) (pi 8) (ah (pc o6 2) (pi (-1)))) (pi 9) (aL (.ai .and .i64 (pc o6 13) (pi 4)) (pi 0))) (pi 10) (aL (.ai .and .i64 (pc o6 13) (pi 2)) (pi 0))
abbrev jT:PE:=.con (.v (.int .u64 4294967296))
abbrev RT:PE:=.mk [(pc (.mk [r0]) 10),(pc (.mk [r0]) 11),(pc (.mk [r0]) 12),(pc (.mk [r0]) 13),(pc (.mk [r0]) 14),(pc (.mk [r0]) 15),(pc (.mk [r0]) 16),(pc (.mk [r0]) 17),(pc (.mk [r0]) 18),(pc (.mk [r0]) 19),(pc (.mk [r0]) 20),(pc (.mk [r0]) 21),(pc (.mk [r0]) 22),(pc (.mk [r0]) 23),(pc (.mk [r0]) 24),(pc (.mk [r0]) 25),(pc (.mk [r0]) 26),(pc (.mk [r0]) 27),(pc (.mk [r0]) 28)]
abbrev tN:PE:=.con (.v (.int .u64 32))
abbrev iJ:PE:=.setc (.setc jt 0 (ao 19 o8)) 17 pN
abbrev lE:PE:=.con (.agg [(.int 0),(.int 0),(.list [])])
abbrev RU:PE:=.con (.agg [(.list []),(.list []),(.list []),(.list []),(.list []),(.list []),(.list []),(.list []),(.int 0),(.int 0),(.int 0),(.int 0),(.int 0),(.int 0),(.int 0),(.int 0),(.int 0),(.int 0),(.int 0),(.int 0),(.int 0),(.int 0),(.int 0),(.int 0),(.int 0),(.list []),(.list []),(.list []),(.list []),(.int 0),(.int 0)])
abbrev kM:PE:=.con (.agg [(.list []),(.int 0)])
abbrev RV:PE:=.con (.agg [(.int 0),(.int 0),(.int 0),(.int 0),(.int 0),(.int 0),(.int 0),(.int 0),(.int 0),(.int 0),(.int 0),(.int 0),(.int 0),(.int 0),(.int 0),(.list []),(.list []),(.list []),(.list []),(.int 0),(.int 0),(.int 0),(.int 0),(.int 0)])
abbrev wv:PE:=.con (.v (.int .u64 4294967295))
abbrev cO:PE:=pi 4294967296
abbrev nI:PE:=.setc z9 0 (pn (pc (.mk [r1]) 15) r2)
abbrev y4:PE:=.mk [(pc (.setc fE 0 eG) 0),(pc (.setc fE 0 eG) 1)]
abbrev y5:PE:=.setc z9 0 (pn (pc (.mk [r2]) 15) (pc (.mk [r2]) 19))
abbrev ju:PE:=.setc (.mk [r3]) 18 pL
abbrev oT:PE:=.conv .u64 nN
abbrev RW:PE:=.put (.put (.put (.con (.map [])) (pi 0) (pc o6 3)) (pi 1) (pc o6 14)) (pi 2) (pc o6 5)
abbrev Ln:PE:=.pick (.pick (ah (.tget tR 0) (pi 0)) (pc bQ 0) pF) (.setc bQ 1 (.mn (.mx (pc bQ 1) (pi 0)) (pi 20000))) bQ
abbrev De:PE:=.mk [(pc (.setc o4 0 (.mk [pF,(pi 0)])) 0),(pc (.setc o4 0 (.mk [pF,(pi 0)])) 1)]
abbrev Df:PE:=.con (.agg [(.int 0),(.int 0),(.int 0),(.int 0),(.int 0),(.int 0),(.bool false)])
abbrev y6:PE:=.con (.agg [(.bool false),(.int 0),(.int 0),(.list []),(.int 0)])
abbrev lF:PE:=.con (.v (.int .u64 0))
abbrev Lo:PE:=.con (.agg [(.int 0),(.int 0),(.bool false)])
abbrev Lp:PE:=.con (.agg [(.list []),(.list []),(.list []),(.list []),(.list []),(.list []),(.list []),(.list [])])
abbrev Lq:PE:=.ai .shr .u64 (.ai .sub .u64 (.ai .add .u64 (.ai .mul .u64 kP jT) dc) (.ai .mul .u64 cT r2)) r8
abbrev wx:PE:=.setc (.setc bQ 3 (.tget Dm 0)) 4 (.tget Dm 1)
abbrev rQ:PE:=.ai .shr .u64 r0 tN
abbrev Lr:PE:=.con (.v (.int .u64 16))
abbrev nJ:PE:=.con (.v (.int .u64 8))
abbrev Ls:PE:=aH (bJ (aH (.ai .mul .i64 (pi 12) (.tget fF 0)) (.tget fF 1)) (pi 1)) r1
abbrev ko:PE:=ao 8 (.mk [r0])
abbrev lG:PE:=pi 1099511627776
abbrev wy:PE:=pc (.mk [r0]) 2
abbrev RX:PE:=.pick (aY cT jT) pT (bj (.ai .mul .u64 cT cP) (.ai .add .u64 (.ai .mul .u64 jT cQ) dc))
abbrev RY:PE:=.pick (aY cm jT) pT (bj (.ai .mul .u64 cm cP) (.ai .add .u64 (.ai .mul .u64 jT cQ) cB))
abbrev RZ:PE:=.mk [(pc (.setc o4 0 (.mk [(pi 0),(pi 0),pL])) 0),(pc (.setc o4 0 (.mk [(pi 0),(pi 0),pL])) 1),pL]
abbrev Lt:PE:=.ai .sub .u64 wz (.ai .mul .u64 (.ai .quo .u64 wz oW) oW)
abbrev kO:PE:=pn cn dc
abbrev lH:PE:=pc (.mk [r0]) 0
abbrev Lu:PE:=.ai .sub .u64 qu (.ai .mul .u64 (.ai .quo .u64 qu r9) r9)
abbrev Lv:PE:=aY (.ai .sub .u64 (.con (.v (.int .u64 64))) oT) (pi 0)
abbrev oU:PE:=pc (.mk [r0]) 1
abbrev nK:PE:=pc (.mk [r0]) 15
abbrev R0:PE:=ao 5 (.setc o8 0 (.mk [(pc bQ 0),(pc bQ 1),(pc bQ 2),(.o 16394),(pc bQ 4)]))
abbrev nL:PE:=.llen (pc o3 2)
abbrev ae5:PE:=.pick (.pick (.pick (aq (pc y5 2) (pi 0)) pT (aY (pc y5 2) (.llen (pc (.mk [r0]) 3)))) pT (aq r1 (pi 0))) pT (aY r1 (.llen (pc (.mk [r0]) 4)))
abbrev R1:PE:=.put (.con (.map [])) (pi 7) (aL (.ai .and .i64 (pc o6 13) (pi 1)) (pi 0))
abbrev R2:PE:=.ai .mul .u64 (.conv .u64 (pc (.mk [r1]) 1)) (.conv .u64 (pc (.mk [r2]) 1))
abbrev Dg:PE:=.ai .shl .u64 r2 oT
abbrev ae6:PE:=.ai .shl .u64 r1 oT
abbrev ae7:PE:=.ai .add .u64 (.ai .mul .u64 rQ (.ai .and .u64 r1 wv)) (.ai .shr .u64 (.ai .mul .u64 (.ai .and .u64 r0 wv) (.ai .and .u64 r1 wv)) tN)
abbrev Dh:PE:=.setc z9 0 (pn (pc (.mk [r0]) 25) r1)
abbrev ae8:PE:=.setc z2 0 (.mk [(.pick r0 (bJ (pi 0) (.conv .i64 (pc (.mk [r1]) 1))) (.conv .i64 (pc (.mk [r1]) 1))),(.conv .i64 (pc (.mk [r2]) 1))])
abbrev ae9:PE:=.pick (.pick (ah (.tget iK 0) lF) (aq (.tget iK 1) (.con (.v (.int .u64 1099511627776)))) pF) (.conv .i64 (.tget iK 1)) lG
abbrev Di:PE:=bJ (pi 2) (pc (pn o7 (pi 0)) 1)
abbrev Lw:PE:=.setc lE 0 (.sub (pn (pc o2 3) fF) 1 3)
abbrev afa:PE:=.app o2 (.lst [(pc (.setc (.con (.agg [(.v (.string ⟨#[]⟩)),(.int 0),(.int 0),(.list []),(.list []),(.list [])])) 0 kO) 0)])
abbrev Ly:PE:=.ai .add .u64 (.ai .mul .u64 cm jT) cT
abbrev afb:PE:=.pick (.pick (ah (pc (.setc z5 0 kO) 0) r1) (ah (pc (.setc z5 0 kO) 1) r2) pF) (bz (pc (.setc z5 0 kO) 4) r3) pF
abbrev afc:PE:=.pick (.pick (ah (pc (.setc z3 0 kO) 0) r1) (bz (pc (.setc z3 0 kO) 1) r2) pF) (bz r2 (pc (.setc z3 0 kO) 2)) pF
abbrev mR:PE:=aq dc cB
abbrev Lz:PE:=.pick (aq r1 (pi 3)) (bJ r0 (pi 1)) r0
abbrev afd:PE:=.app o4 (.lst [(pc (.setc (.con (.agg [(.v (.string ⟨#[]⟩)),(.bool false),(.list []),(.list [])])) 0 (pn kR rR)) 0)])
abbrev afe:PE:=.put (.put (.put Lm (pi 11) (aL R9 Sa)) (pi 12) cB) (pi 13) (aL (.ai .and .i64 (pc o8 8) (pi 1)) (pi 0))
abbrev oV:PE:=pn r1 (pi 1)
abbrev R3:PE:=.app (.app (.lst []) (pc o8 17)) (.lst [(ao 9 qo)])
abbrev R4:PE:=.put (.put RW (pi 3) (pc o6 12)) (pi 4) (pc o8 0)
abbrev aff:PE:=.pick (bj (.llen (pc (pn (pc o1 1) r3) 4)) (pi 70)) pT (bj (.llen (pc (pn (pc o1 1) r3) 5)) (pi 210))
abbrev Dj:PE:=.setc Lo 0 (pn fF iL)
abbrev afg:PE:=.app o3 (.lst [(pc (.setc (.con (.agg [(.v (.string ⟨#[]⟩)),(.int 0),(.int 0)])) 0 (pn iL eG)) 0)])
abbrev afh:PE:=.app o4 (.lst [(pc (.setc (.con (.agg [(.int 0),(.int 0),(.int 0),(.list [])])) 0 (pn eG qx)) 0)])
abbrev tO:PE:=.llen (pc o1 4)
abbrev tP:PE:=.llen (pc o1 1)
abbrev afi:PE:=.an (.cb .eql (pc (pn r1 (pi 0)) 0) (pc y4 0)) (.an (ah (pc (pn r1 (pi 0)) 1) (pc y4 1)) pT)
abbrev afj:PE:=.app (.o 69637) (.lst [(.mk [(pc (.setc z2 0 (pn qA oZ)) 0),(pc (.setc z2 0 (pn qA oZ)) 1)])])
abbrev Dk:PE:=.ai .shr .u64 rQ Lr
abbrev y7:PE:=.ai .add .u64 cQ r9
abbrev R5:PE:=pc (pn oU (pc (pn (pc (.mk [r0]) 3) r2) 1)) 2
abbrev R6:PE:=.setc o4 0 (.mk [(pc o9 0),(pc o9 1),(pc o9 2)])
abbrev R7:PE:=.setc (.setc o6 4 (.tget qz 0)) 5 (.tget qz 1)
abbrev LA:PE:=.setc z2 0 (.mk [(pi 0),(pi 0)])
abbrev afk:PE:=.pick (bj (aH Lb (pi 3)) (pi 12)) (bJ (aH Lb (pi 3)) (pi 12)) (aH Lb (pi 3))
abbrev afl:PE:=.pick (.nt (.nt (.an (.an dc pT) (.nt pF)))) (.app (.o 1000) (.lst [(.tup [r5])])) (.o 1000)
abbrev tQ:PE:=aH r8 (pi 1)
abbrev qv:PE:=.llen wy
abbrev afm:PE:=.setc o4 0 (.mk [(pc (.setc fE 0 (.tget jU 0)) 0),(pc (.setc fE 0 (.tget jU 0)) 1)])
abbrev Dl:PE:=.setc z9 0 (pn Sb gW)
abbrev Da:PE:=.con (.v (.int .u64 1))
abbrev Lc:PE:=.setc fE 0 (.mk [pT,(pi 1)])
abbrev Ld:PE:=.setc fE 0 (.mk [pT,(pi 0)])
abbrev aeX:PE:=.setc o8 0 (.mk [(pc (.setc z2 0 (.tget LD 0)) 0),(pc (.setc z2 0 (.tget LD 0)) 1)])
abbrev Lf:PE:=bJ (.llen (pc o3 3)) (pi 1)
abbrev wk:PE:=.mk [pF,(pi 0)]
abbrev Db:PE:=.con (.agg [(.int 0)])
abbrev Dc:PE:=.ai .shr .u64 r0 Lr
abbrev aeY:PE:=aH wu (.ai .mul .i64 (pi 400) (.ai .quo .i64 (aH r0 (pi 730425)) (pi 146097)))
abbrev qs:PE:=pn dc cQ
abbrev wq:PE:=.setc z7 0 wG
abbrev yZ:PE:=aY tN (pi 0)
abbrev y0:PE:=pc (.mk [r0]) 18
abbrev aeZ:PE:=.ai .mul .u64 (.conv .u64 (pc (.mk [r1]) 0)) (.conv .u64 (pc (.mk [r2]) 0))
abbrev rP:PE:=pn cP cn
abbrev Lg:PE:=.con (.v (.int .u64 256))
abbrev Lh:PE:=.ai .shr .u64 ae6 tN
abbrev Li:PE:=.ai .and .u64 ae6 wv
abbrev Lj:PE:=.ai .and .u64 Dg wv
abbrev y1:PE:=pc (.mk [r0]) 5
abbrev y2:PE:=aH dc (pi 1)
abbrev RR:PE:=.pick (aY r0 (pi 0)) (aq r0 r1) pF
abbrev y3:PE:=.llen (pc o1 3)
abbrev ae0:PE:=.setc o4 0 (.mk [(pc (.setc fE 0 Sf) 0),(pc (.setc fE 0 Sf) 1)])
abbrev ae1:PE:=.setc o4 0 (.mk [(pc (.setc fE 0 nM) 0),(pc (.setc fE 0 nM) 1)])
abbrev ae2:PE:=.setc kM 0 (.mk [(.lst [(pi 1),(pi (-1)),(pi (-1))]),(pi (-1))])
abbrev ae3:PE:=.pick (aL (pc o3 22) (pi (-1))) (bJ (pc o8 6) (pc o3 22)) (pi 0)
abbrev RS:PE:=.ai .rem .i64 (pn r8 cP) (pi 100)
abbrev Ll:PE:=.ai .quo .u64 wz oW
abbrev ae4:PE:=.app (.o 77829) (.lst [(.mk [(pc Ir 0),(pc Ir 1),(pc Ir 2)])])
end Rm
