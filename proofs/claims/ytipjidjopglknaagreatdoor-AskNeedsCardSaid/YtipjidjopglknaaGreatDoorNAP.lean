/-
  Shared texts of this claim.
-/
import Derived.Test.YtipjidjopglknaaGreatDoorNAJ
import Derived.Test.YtipjidjopglknaaGreatDoorNAO
import Derived.WalkKit
import Derived.WalkSpells
import Derived.Lib.SliceRun
import Derived.Lib.AppendZeros
import Derived.Laws.Strings
set_option linter.unusedSimpArgs false
set_option linter.unusedVariables false
noncomputable section
namespace Rm
open Go Cx
abbrev str (b:ByteArray):D:=.v (.string b)
def strs (l:List ByteArray):D:=.list (l.map str)
@[simp] theorem ast (l:List ByteArray):(strs l).l=l.map str:=_root_.id rfl
theorem str_inv {d:D}(h:DTy .str d):∃b,d=str b:=by
 cases h with
 |str b=>exact⟨b,rfl⟩
 |other t d h=>exact h.elim
theorem ass {d:D}(h:DTy (.slice .str) d):∃l:List ByteArray,d=strs l∧l.length≤maxLen:=by
 obtain⟨xs,rfl,hm,hx⟩:=h.slice_inv;obtain⟨l,rfl,hl⟩:=ky (enc:=str) (P:=fun _=>True) fun x hh=>(str_inv (hx x hh)).imp fun b hb=>⟨hb,trivial⟩
 exact⟨l,rfl,by simpa using hm⟩
@[simp] theorem axG (t:Tm):(du t).cells=[.int t.op,.int t.n,.list (t.args.map du)]:=by rw[De];rfl
@[simp] theorem axH (t:Tm):D.agg [.int t.op,.int t.n,.list (t.args.map du)]=du t:=(De t).symm
@[simp] theorem axD (t:Tm):(du t).c 0=.int t.op:=by rw[De];rfl
@[simp] theorem axE (t:Tm):(du t).c 1=.int t.n:=by rw[De];rfl
@[simp] theorem axF (t:Tm):(du t).c 2=.list (t.args.map du):=by rw[De];rfl
structure City where
 name:ByteArray
 order:Int
 currency:Int
 rest:List Int
 feasts:List Int
 shut:List Int
 deriving Inhabited
def gH (x:City):D:=.agg [str x.name,.int x.order,.int x.currency,ints x.rest,ints x.feasts,ints x.shut]
@[simp] theorem awB (x:City):(gH x).cells=[str x.name,.int x.order,.int x.currency,ints x.rest,ints x.feasts,ints x.shut]:=_root_.id rfl
@[simp] theorem aAM (x:City):D.agg [str x.name,.int x.order,.int x.currency,ints x.rest,ints x.feasts,ints x.shut]=gH x:=_root_.id rfl
@[simp] theorem axZ (x:City):kM 6 (gH x)=gH x:=_root_.id rfl
@[simp] theorem awv (x:City):(gH x).c 0=str x.name:=_root_.id rfl
@[simp] theorem aww (x:City):(gH x).c 1=.int x.order:=_root_.id rfl
@[simp] theorem awx (x:City):(gH x).c 2=.int x.currency:=_root_.id rfl
@[simp] theorem awy (x:City):(gH x).c 3=ints x.rest:=_root_.id rfl
@[simp] theorem awz (x:City):(gH x).c 4=ints x.feasts:=_root_.id rfl
@[simp] theorem awA (x:City):(gH x).c 5=ints x.shut:=_root_.id rfl
def we (l:List City):D:=.list (l.map gH)
@[simp] theorem ayp (l:List City):(we l).l=l.map gH:=_root_.id rfl
abbrev Vc:Ty:=.agg [.str,.int .i64,.int .i64,.slice (.int .i64),.slice (.int .i64),.slice (.int .i64)]
def City.OK (x:City):Prop:=aW x.order∧aW x.currency∧(x.rest.length≤maxLen∧∀y,y∈x.rest→aW y)∧(x.feasts.length≤maxLen∧∀y,y∈x.feasts→aW y)∧(x.shut.length≤maxLen∧∀y,y∈x.shut→aW y)
theorem ahq {d:D}(h:DTy Vc d):∃x:City,d=gH x∧x.OK:=by
 obtain⟨ds,rfl,hs⟩:=h.agg_inv;obtain⟨d0,ds,rfl,h0,hs⟩:=hs.cons_inv;obtain⟨d1,ds,rfl,h1,hs⟩:=hs.cons_inv;obtain⟨d2,ds,rfl,h2,hs⟩:=hs.cons_inv;obtain⟨d3,ds,rfl,h3,hs⟩:=hs.cons_inv;obtain⟨d4,ds,rfl,h4,hs⟩:=hs.cons_inv;obtain⟨d5,ds,rfl,h5,hs⟩:=hs.cons_inv;obtain rfl:=hs.nil_inv;obtain⟨n0,rfl⟩:=str_inv h0;obtain⟨n1,rfl,b1⟩:=h1.i64_inv;obtain⟨n2,rfl,b2⟩:=h2.i64_inv;obtain⟨n3,rfl,b3,c3⟩:=h3.ints_inv;obtain⟨n4,rfl,b4,c4⟩:=h4.ints_inv;obtain⟨n5,rfl,b5,c5⟩:=h5.ints_inv;exact⟨⟨n0,n1,n2,n3,n4,n5⟩,rfl,⟨b1,b2,⟨b3,c3⟩,⟨b4,c4⟩,⟨b5,c5⟩⟩⟩
theorem ahr {d:D}(h:DTy (.slice Vc) d):∃l:List City,d=we l∧l.length≤maxLen∧∀y,y∈l→City.OK y:=by
 obtain⟨xs,rfl,hm,hx⟩:=h.slice_inv;obtain⟨l,rfl,hl⟩:=ky (enc:=gH) (P:=City.OK) fun x hh=>ahq (hx x hh);exact⟨l,rfl,by simpa using hm,hl⟩
structure Firm where
 name:ByteArray
 city:Int
 group:Int
 deriving Inhabited
def sH (x:Firm):D:=.agg [str x.name,.int x.city,.int x.group]
@[simp] theorem awR (x:Firm):(sH x).cells=[str x.name,.int x.city,.int x.group]:=_root_.id rfl
@[simp] theorem aAP (x:Firm):D.agg [str x.name,.int x.city,.int x.group]=sH x:=_root_.id rfl
@[simp] theorem awO (x:Firm):(sH x).c 0=str x.name:=_root_.id rfl
@[simp] theorem awP (x:Firm):(sH x).c 1=.int x.city:=_root_.id rfl
@[simp] theorem awQ (x:Firm):(sH x).c 2=.int x.group:=_root_.id rfl
def firms (l:List Firm):D:=.list (l.map sH)
@[simp] theorem azC (l:List Firm):(firms l).l=l.map sH:=_root_.id rfl
abbrev Ve:Ty:=.agg [.str,.int .i64,.int .i64]
def Firm.OK (x:Firm):Prop:=aW x.city∧aW x.group
theorem ai6 {d:D}(h:DTy Ve d):∃x:Firm,d=sH x∧x.OK:=by
 obtain⟨ds,rfl,hs⟩:=h.agg_inv;obtain⟨d0,ds,rfl,h0,hs⟩:=hs.cons_inv;obtain⟨d1,ds,rfl,h1,hs⟩:=hs.cons_inv;obtain⟨d2,ds,rfl,h2,hs⟩:=hs.cons_inv;obtain rfl:=hs.nil_inv;obtain⟨n0,rfl⟩:=str_inv h0;obtain⟨n1,rfl,b1⟩:=h1.i64_inv;obtain⟨n2,rfl,b2⟩:=h2.i64_inv;exact⟨⟨n0,n1,n2⟩,rfl,⟨b1,b2⟩⟩
theorem ai7 {d:D}(h:DTy (.slice Ve) d):∃l:List Firm,d=firms l∧l.length≤maxLen∧∀y,y∈l→Firm.OK y:=by
 obtain⟨xs,rfl,hm,hx⟩:=h.slice_inv;obtain⟨l,rfl,hl⟩:=ky (enc:=sH) (P:=Firm.OK) fun x hh=>ai6 (hx x hh);exact⟨l,rfl,by simpa using hm,hl⟩
structure Group where
 grade:Int
 deriving DecidableEq,Inhabited
def wj (x:Group):D:=.agg [.int x.grade]
@[simp] theorem awT (x:Group):(wj x).cells=[.int x.grade]:=_root_.id rfl
@[simp] theorem aAQ (x:Group):D.agg [.int x.grade]=wj x:=_root_.id rfl
@[simp] theorem awS (x:Group):(wj x).c 0=.int x.grade:=_root_.id rfl
def groups (l:List Group):D:=.list (l.map wj)
@[simp] theorem azL (l:List Group):(groups l).l=l.map wj:=_root_.id rfl
abbrev Vf:Ty:=.agg [.int .i64]
def Group.OK (x:Group):Prop:=aW x.grade
theorem ako {d:D}(h:DTy Vf d):∃x:Group,d=wj x∧x.OK:=by
 obtain⟨ds,rfl,hs⟩:=h.agg_inv;obtain⟨d0,ds,rfl,h0,hs⟩:=hs.cons_inv;obtain rfl:=hs.nil_inv;obtain⟨n0,rfl,b0⟩:=h0.i64_inv;exact⟨⟨n0⟩,rfl,b0⟩
theorem akp {d:D}(h:DTy (.slice Vf) d):∃l:List Group,d=groups l∧l.length≤maxLen∧∀y,y∈l→Group.OK y:=by
 obtain⟨xs,rfl,hm,hx⟩:=h.slice_inv;obtain⟨l,rfl,hl⟩:=ky (enc:=wj) (P:=Group.OK) fun x hh=>ako (hx x hh);exact⟨l,rfl,by simpa using hm,hl⟩
structure Usance where
 fr:Int
 to:Int
 days:Int
 deriving DecidableEq,Inhabited
def sL (x:Usance):D:=.agg [.int x.fr,.int x.to,.int x.days]
@[simp] theorem axQ (x:Usance):(sL x).cells=[.int x.fr,.int x.to,.int x.days]:=_root_.id rfl
@[simp] theorem aA0 (x:Usance):D.agg [.int x.fr,.int x.to,.int x.days]=sL x:=_root_.id rfl
@[simp] theorem axN (x:Usance):(sL x).c 0=.int x.fr:=_root_.id rfl
@[simp] theorem axO (x:Usance):(sL x).c 1=.int x.to:=_root_.id rfl
@[simp] theorem axP (x:Usance):(sL x).c 2=.int x.days:=_root_.id rfl
def usances (l:List Usance):D:=.list (l.map sL)
@[simp] theorem aBY (l:List Usance):(usances l).l=l.map sL:=_root_.id rfl
abbrev Vl:Ty:=.agg [.int .i64,.int .i64,.int .i64]
def Usance.OK (x:Usance):Prop:=aW x.fr∧aW x.to∧aW x.days
theorem au9 {d:D}(h:DTy Vl d):∃x:Usance,d=sL x∧x.OK:=by
 obtain⟨ds,rfl,hs⟩:=h.agg_inv;obtain⟨d0,ds,rfl,h0,hs⟩:=hs.cons_inv;obtain⟨d1,ds,rfl,h1,hs⟩:=hs.cons_inv;obtain⟨d2,ds,rfl,h2,hs⟩:=hs.cons_inv;obtain rfl:=hs.nil_inv;obtain⟨n0,rfl,b0⟩:=h0.i64_inv;obtain⟨n1,rfl,b1⟩:=h1.i64_inv;obtain⟨n2,rfl,b2⟩:=h2.i64_inv;exact⟨⟨n0,n1,n2⟩,rfl,⟨b0,b1,b2⟩⟩
theorem ava {d:D}(h:DTy (.slice Vl) d):∃l:List Usance,d=usances l∧l.length≤maxLen∧∀y,y∈l→Usance.OK y:=by
 obtain⟨xs,rfl,hm,hx⟩:=h.slice_inv;obtain⟨l,rfl,hl⟩:=ky (enc:=sL) (P:=Usance.OK) fun x hh=>au9 (hx x hh);exact⟨l,rfl,by simpa using hm,hl⟩
structure Rate where
 fr:Int
 to:Int
 num:Int
 den:Int
 since:Int
 deriving DecidableEq,Inhabited
def pQ (x:Rate):D:=.agg [.int x.fr,.int x.to,.int x.num,.int x.den,.int x.since]
@[simp] theorem aw8 (x:Rate):(pQ x).cells=[.int x.fr,.int x.to,.int x.num,.int x.den,.int x.since]:=_root_.id rfl
@[simp] theorem aAT (x:Rate):D.agg [.int x.fr,.int x.to,.int x.num,.int x.den,.int x.since]=pQ x:=_root_.id rfl
@[simp] theorem aw3 (x:Rate):(pQ x).c 0=.int x.fr:=_root_.id rfl
@[simp] theorem aw4 (x:Rate):(pQ x).c 1=.int x.to:=_root_.id rfl
@[simp] theorem aw5 (x:Rate):(pQ x).c 2=.int x.num:=_root_.id rfl
@[simp] theorem aw6 (x:Rate):(pQ x).c 3=.int x.den:=_root_.id rfl
@[simp] theorem aw7 (x:Rate):(pQ x).c 4=.int x.since:=_root_.id rfl
def rates (l:List Rate):D:=.list (l.map pQ)
@[simp] theorem aBq (l:List Rate):(rates l).l=l.map pQ:=_root_.id rfl
abbrev Vi:Ty:=.agg [.int .i64,.int .i64,.int .i64,.int .i64,.int .i64]
def Rate.OK (x:Rate):Prop:=aW x.fr∧aW x.to∧aW x.num∧aW x.den∧aW x.since
theorem ari {d:D}(h:DTy Vi d):∃x:Rate,d=pQ x∧x.OK:=by
 obtain⟨ds,rfl,hs⟩:=h.agg_inv;obtain⟨d0,ds,rfl,h0,hs⟩:=hs.cons_inv;obtain⟨d1,ds,rfl,h1,hs⟩:=hs.cons_inv;obtain⟨d2,ds,rfl,h2,hs⟩:=hs.cons_inv;obtain⟨d3,ds,rfl,h3,hs⟩:=hs.cons_inv;obtain⟨d4,ds,rfl,h4,hs⟩:=hs.cons_inv;obtain rfl:=hs.nil_inv;obtain⟨n0,rfl,b0⟩:=h0.i64_inv;obtain⟨n1,rfl,b1⟩:=h1.i64_inv;obtain⟨n2,rfl,b2⟩:=h2.i64_inv;obtain⟨n3,rfl,b3⟩:=h3.i64_inv;obtain⟨n4,rfl,b4⟩:=h4.i64_inv;exact⟨⟨n0,n1,n2,n3,n4⟩,rfl,⟨b0,b1,b2,b3,b4⟩⟩
theorem arj {d:D}(h:DTy (.slice Vi) d):∃l:List Rate,d=rates l∧l.length≤maxLen∧∀y,y∈l→Rate.OK y:=by
 obtain⟨xs,rfl,hm,hx⟩:=h.slice_inv;obtain⟨l,rfl,hl⟩:=ky (enc:=pQ) (P:=Rate.OK) fun x hh=>ari (hx x hh);exact⟨l,rfl,by simpa using hm,hl⟩
structure Halt where
 order:Int
 fr:Int
 to:Int
 deriving DecidableEq,Inhabited
def sI (x:Halt):D:=.agg [.int x.order,.int x.fr,.int x.to]
@[simp] theorem awX (x:Halt):(sI x).cells=[.int x.order,.int x.fr,.int x.to]:=_root_.id rfl
@[simp] theorem aAR (x:Halt):D.agg [.int x.order,.int x.fr,.int x.to]=sI x:=_root_.id rfl
@[simp] theorem awU (x:Halt):(sI x).c 0=.int x.order:=_root_.id rfl
@[simp] theorem awV (x:Halt):(sI x).c 1=.int x.fr:=_root_.id rfl
@[simp] theorem awW (x:Halt):(sI x).c 2=.int x.to:=_root_.id rfl
def halts (l:List Halt):D:=.list (l.map sI)
@[simp] theorem azU (l:List Halt):(halts l).l=l.map sI:=_root_.id rfl
abbrev Vg:Ty:=.agg [.int .i64,.int .i64,.int .i64]
def Halt.OK (x:Halt):Prop:=aW x.order∧aW x.fr∧aW x.to
theorem akT {d:D}(h:DTy Vg d):∃x:Halt,d=sI x∧x.OK:=by
 obtain⟨ds,rfl,hs⟩:=h.agg_inv;obtain⟨d0,ds,rfl,h0,hs⟩:=hs.cons_inv;obtain⟨d1,ds,rfl,h1,hs⟩:=hs.cons_inv;obtain⟨d2,ds,rfl,h2,hs⟩:=hs.cons_inv;obtain rfl:=hs.nil_inv;obtain⟨n0,rfl,b0⟩:=h0.i64_inv;obtain⟨n1,rfl,b1⟩:=h1.i64_inv;obtain⟨n2,rfl,b2⟩:=h2.i64_inv;exact⟨⟨n0,n1,n2⟩,rfl,⟨b0,b1,b2⟩⟩
theorem akU {d:D}(h:DTy (.slice Vg) d):∃l:List Halt,d=halts l∧l.length≤maxLen∧∀y,y∈l→Halt.OK y:=by
 obtain⟨xs,rfl,hm,hx⟩:=h.slice_inv;obtain⟨l,rfl,hl⟩:=ky (enc:=sI) (P:=Halt.OK) fun x hh=>akT (hx x hh);exact⟨l,rfl,by simpa using hm,hl⟩
structure Choice where
 ask:Int
 by_:Int
 whole:Bool
 deriving DecidableEq,Inhabited
def ur (x:Choice):D:=.agg [.int x.ask,.int x.by_,.bool x.whole]
@[simp] theorem awu (x:Choice):(ur x).cells=[.int x.ask,.int x.by_,.bool x.whole]:=_root_.id rfl
@[simp] theorem aAL (x:Choice):D.agg [.int x.ask,.int x.by_,.bool x.whole]=ur x:=_root_.id rfl
@[simp] theorem aws (x:Choice):(ur x).c 0=.int x.ask:=_root_.id rfl
@[simp] theorem awt (x:Choice):(ur x).c 1=.int x.by_:=_root_.id rfl
def choices (l:List Choice):D:=.list (l.map ur)
@[simp] theorem ayo (l:List Choice):(choices l).l=l.map ur:=_root_.id rfl
abbrev Vb:Ty:=.agg [.int .i64,.int .i64,.bool]
def Choice.OK (x:Choice):Prop:=aW x.ask∧aW x.by_
theorem ahn {d:D}(h:DTy Vb d):∃x:Choice,d=ur x∧x.OK:=by
 obtain⟨ds,rfl,hs⟩:=h.agg_inv;obtain⟨d0,ds,rfl,h0,hs⟩:=hs.cons_inv;obtain⟨d1,ds,rfl,h1,hs⟩:=hs.cons_inv;obtain⟨d2,ds,rfl,h2,hs⟩:=hs.cons_inv;obtain rfl:=hs.nil_inv;obtain⟨n0,rfl,b0⟩:=h0.i64_inv;obtain⟨n1,rfl,b1⟩:=h1.i64_inv;obtain⟨n2,rfl⟩:=h2.bool_inv;exact⟨⟨n0,n1,n2⟩,rfl,⟨b0,b1⟩⟩
theorem aho {d:D}(h:DTy (.slice Vb) d):∃l:List Choice,d=choices l∧l.length≤maxLen∧∀y,y∈l→Choice.OK y:=by
 obtain⟨xs,rfl,hm,hx⟩:=h.slice_inv;obtain⟨l,rfl,hl⟩:=ky (enc:=ur) (P:=Choice.OK) fun x hh=>ahn (hx x hh);exact⟨l,rfl,by simpa using hm,hl⟩
structure Rule where
 ask:Int
 term:Tm
 deriving Inhabited
def sJ (x:Rule):D:=.agg [.int x.ask,.int x.term.op,.int x.term.n,.list (x.term.args.map du)]
@[simp] theorem axj (x:Rule):(sJ x).cells=[.int x.ask,.int x.term.op,.int x.term.n,.list (x.term.args.map du)]:=_root_.id rfl
@[simp] theorem aAV (x:Rule):D.agg [.int x.ask,.int x.term.op,.int x.term.n,.list (x.term.args.map du)]=sJ x:=_root_.id rfl
@[simp] theorem axi (x:Rule):(sJ x).c 0=.int x.ask:=_root_.id rfl
def rules (l:List Rule):D:=.list (l.map sJ)
@[simp] theorem aBu (l:List Rule):(rules l).l=l.map sJ:=_root_.id rfl
abbrev Vj:Ty:=.agg [.int .i64,.int .i64,.int .i64,.slice .trm]
def Rule.OK (x:Rule):Prop:=aW x.ask∧Tm.OK x.term
theorem arZ {d:D}(h:DTy Vj d):∃x:Rule,d=sJ x∧x.OK:=by
 obtain⟨ds,rfl,hs⟩:=h.agg_inv;obtain⟨d0,ds,rfl,h0,hs⟩:=hs.cons_inv;obtain⟨d1,ds,rfl,h1,hs⟩:=hs.cons_inv;obtain⟨d2,ds,rfl,h2,hs⟩:=hs.cons_inv;obtain⟨d3,ds,rfl,h3,hs⟩:=hs.cons_inv;obtain rfl:=hs.nil_inv;obtain⟨n0,rfl,b0⟩:=h0.i64_inv;obtain⟨n1,rfl,b1⟩:=h1.i64_inv;obtain⟨n2,rfl,b2⟩:=h2.i64_inv;obtain⟨n3,rfl,b3,c3⟩:=h3.trms_inv;exact⟨⟨n0,.mk n1 n2 n3⟩,rfl,⟨b0,.mk _ _ _ b1 b2 b3 c3⟩⟩
theorem ar0 {d:D}(h:DTy (.slice Vj) d):∃l:List Rule,d=rules l∧l.length≤maxLen∧∀y,y∈l→Rule.OK y:=by
 obtain⟨xs,rfl,hm,hx⟩:=h.slice_inv;obtain⟨l,rfl,hl⟩:=ky (enc:=sJ) (P:=Rule.OK) fun x hh=>arZ (hx x hh);exact⟨l,rfl,by simpa using hm,hl⟩
structure Order where
 name:ByteArray
 accepts:Bool
 choices:List Choice
 rules:List Rule
 deriving Inhabited
def iZ (x:Order):D:=.agg [str x.name,.bool x.accepts,choices x.choices,rules x.rules]
@[simp] theorem aw2 (x:Order):(iZ x).cells=[str x.name,.bool x.accepts,choices x.choices,rules x.rules]:=_root_.id rfl
@[simp] theorem aAS (x:Order):D.agg [str x.name,.bool x.accepts,choices x.choices,rules x.rules]=iZ x:=_root_.id rfl
@[simp] theorem ax1 (x:Order):kM 4 (iZ x)=iZ x:=_root_.id rfl
@[simp] theorem awY (x:Order):(iZ x).c 0=str x.name:=_root_.id rfl
@[simp] theorem awZ (x:Order):(iZ x).c 1=.bool x.accepts:=_root_.id rfl
@[simp] theorem aw0 (x:Order):(iZ x).c 2=choices x.choices:=_root_.id rfl
@[simp] theorem aw1 (x:Order):(iZ x).c 3=rules x.rules:=_root_.id rfl
def orders (l:List Order):D:=.list (l.map iZ)
@[simp] theorem aA9 (l:List Order):(orders l).l=l.map iZ:=_root_.id rfl
abbrev Vh:Ty:=.agg [.str,.bool,.slice Vb,.slice Vj]
def Order.OK (x:Order):Prop:=(x.choices.length≤maxLen∧∀y,y∈x.choices→Choice.OK y)∧(x.rules.length≤maxLen∧∀y,y∈x.rules→Rule.OK y)
theorem aqm {d:D}(h:DTy Vh d):∃x:Order,d=iZ x∧x.OK:=by
 obtain⟨ds,rfl,hs⟩:=h.agg_inv;obtain⟨d0,ds,rfl,h0,hs⟩:=hs.cons_inv;obtain⟨d1,ds,rfl,h1,hs⟩:=hs.cons_inv;obtain⟨d2,ds,rfl,h2,hs⟩:=hs.cons_inv;obtain⟨d3,ds,rfl,h3,hs⟩:=hs.cons_inv;obtain rfl:=hs.nil_inv;obtain⟨n0,rfl⟩:=str_inv h0;obtain⟨n1,rfl⟩:=h1.bool_inv;obtain⟨n2,rfl,b2,c2⟩:=aho h2;obtain⟨n3,rfl,b3,c3⟩:=ar0 h3;exact⟨⟨n0,n1,n2,n3⟩,rfl,⟨⟨b2,c2⟩,⟨b3,c3⟩⟩⟩
theorem aqo {d:D}(h:DTy (.slice Vh) d):∃l:List Order,d=orders l∧l.length≤maxLen∧∀y,y∈l→Order.OK y:=by
 obtain⟨xs,rfl,hm,hx⟩:=h.slice_inv;obtain⟨l,rfl,hl⟩:=ky (enc:=iZ) (P:=Order.OK) fun x hh=>aqm (hx x hh);exact⟨l,rfl,by simpa using hm,hl⟩
structure Realm where
 currencies:List ByteArray
 cities:List City
 groups:List Group
 firms:List Firm
 orders:List Order
 usances:List Usance
 rates:List Rate
 halts:List Halt
 deriving Inhabited
def bk (x:Realm):D:=.agg [strs x.currencies,we x.cities,groups x.groups,firms x.firms,orders x.orders,usances x.usances,rates x.rates,halts x.halts]
@[simp] theorem axh (x:Realm):(bk x).cells=[strs x.currencies,we x.cities,groups x.groups,firms x.firms,orders x.orders,usances x.usances,rates x.rates,halts x.halts]:=_root_.id rfl
@[simp] theorem aAU (x:Realm):D.agg [strs x.currencies,we x.cities,groups x.groups,firms x.firms,orders x.orders,usances x.usances,rates x.rates,halts x.halts]=bk x:=_root_.id rfl
@[simp] theorem ax2 (x:Realm):kM 8 (bk x)=bk x:=_root_.id rfl
@[simp] theorem aBd (x:Realm)(a0 a1 a2 a3 a4 a5 a6 a7:D):D.agg (eM [a0,a1,a2,a3,a4,a5,a6,a7] 0 [strs x.currencies,we x.cities,groups x.groups,firms x.firms,orders x.orders,usances x.usances,rates x.rates,halts x.halts])=bk x:=_root_.id rfl
@[simp] theorem aw9 (x:Realm):(bk x).c 0=strs x.currencies:=_root_.id rfl
@[simp] theorem axa (x:Realm):(bk x).c 1=we x.cities:=_root_.id rfl
@[simp] theorem axb (x:Realm):(bk x).c 2=groups x.groups:=_root_.id rfl
@[simp] theorem axc (x:Realm):(bk x).c 3=firms x.firms:=_root_.id rfl
@[simp] theorem axd (x:Realm):(bk x).c 4=orders x.orders:=_root_.id rfl
@[simp] theorem axe (x:Realm):(bk x).c 5=usances x.usances:=_root_.id rfl
@[simp] theorem axf (x:Realm):(bk x).c 6=rates x.rates:=_root_.id rfl
@[simp] theorem axg (x:Realm):(bk x).c 7=halts x.halts:=_root_.id rfl
abbrev au1:Ty:=.agg [.slice .str,.slice Vc,.slice Vf,.slice Ve,.slice Vh,.slice Vl,.slice Vi,.slice Vg]
def Realm.OK (x:Realm):Prop:=x.currencies.length≤maxLen∧(x.cities.length≤maxLen∧∀y,y∈x.cities→City.OK y)∧(x.groups.length≤maxLen∧∀y,y∈x.groups→Group.OK y)∧(x.firms.length≤maxLen∧∀y,y∈x.firms→Firm.OK y)∧(x.orders.length≤maxLen∧∀y,y∈x.orders→Order.OK y)∧(x.usances.length≤maxLen∧∀y,y∈x.usances→Usance.OK y)∧(x.rates.length≤maxLen∧∀y,y∈x.rates→Rate.OK y)∧(x.halts.length≤maxLen∧∀y,y∈x.halts→Halt.OK y)
theorem arD {d:D}(h:DTy au1 d):∃x:Realm,d=bk x∧x.OK:=by
 obtain⟨ds,rfl,hs⟩:=h.agg_inv;obtain⟨d0,ds,rfl,h0,hs⟩:=hs.cons_inv;obtain⟨d1,ds,rfl,h1,hs⟩:=hs.cons_inv;obtain⟨d2,ds,rfl,h2,hs⟩:=hs.cons_inv;obtain⟨d3,ds,rfl,h3,hs⟩:=hs.cons_inv;obtain⟨d4,ds,rfl,h4,hs⟩:=hs.cons_inv;obtain⟨d5,ds,rfl,h5,hs⟩:=hs.cons_inv;obtain⟨d6,ds,rfl,h6,hs⟩:=hs.cons_inv;obtain⟨d7,ds,rfl,h7,hs⟩:=hs.cons_inv;obtain rfl:=hs.nil_inv;obtain⟨n0,rfl,b0⟩:=ass h0;obtain⟨n1,rfl,b1,c1⟩:=ahr h1;obtain⟨n2,rfl,b2,c2⟩:=akp h2;obtain⟨n3,rfl,b3,c3⟩:=ai7 h3;obtain⟨n4,rfl,b4,c4⟩:=aqo h4;obtain⟨n5,rfl,b5,c5⟩:=ava h5;obtain⟨n6,rfl,b6,c6⟩:=arj h6;obtain⟨n7,rfl,b7,c7⟩:=akU h7;exact⟨⟨n0,n1,n2,n3,n4,n5,n6,n7⟩,rfl,⟨b0,⟨b1,c1⟩,⟨b2,c2⟩,⟨b3,c3⟩,⟨b4,c4⟩,⟨b5,c5⟩,⟨b6,c6⟩,⟨b7,c7⟩⟩⟩
structure Tenor where
 kind:Int
 n:Int
 unit:Int
 deriving DecidableEq,Inhabited
def sK (x:Tenor):D:=.agg [.int x.kind,.int x.n,.int x.unit]
@[simp] theorem axL (x:Tenor):(sK x).cells=[.int x.kind,.int x.n,.int x.unit]:=_root_.id rfl
@[simp] theorem aAZ (x:Tenor):D.agg [.int x.kind,.int x.n,.int x.unit]=sK x:=_root_.id rfl
@[simp] theorem axI (x:Tenor):(sK x).c 0=.int x.kind:=_root_.id rfl
@[simp] theorem axJ (x:Tenor):(sK x).c 1=.int x.n:=_root_.id rfl
@[simp] theorem axK (x:Tenor):(sK x).c 2=.int x.unit:=_root_.id rfl
def Tenor.OK (x:Tenor):Prop:=aW x.kind∧aW x.n∧aW x.unit
structure Bill where
 drawer:Int
 drawee:Int
 payee:Int
 sum:Int
 currency:Int
 tenor:Tenor
 day:Int
 city:Int
 pay:Int
 need:Int
 rate:Int
 flags:Int
 parts:Int
 deriving DecidableEq,Inhabited
def eu (x:Bill):D:=.agg [.int x.drawer,.int x.drawee,.int x.payee,.int x.sum,.int x.currency,.int x.tenor.kind,.int x.tenor.n,.int x.tenor.unit,.int x.day,.int x.city,.int x.pay,.int x.need,.int x.rate,.int x.flags,.int x.parts]
@[simp] theorem awf (x:Bill):(eu x).cells=[.int x.drawer,.int x.drawee,.int x.payee,.int x.sum,.int x.currency,.int x.tenor.kind,.int x.tenor.n,.int x.tenor.unit,.int x.day,.int x.city,.int x.pay,.int x.need,.int x.rate,.int x.flags,.int x.parts]:=_root_.id rfl
@[simp] theorem aAI (x:Bill):D.agg [.int x.drawer,.int x.drawee,.int x.payee,.int x.sum,.int x.currency,.int x.tenor.kind,.int x.tenor.n,.int x.tenor.unit,.int x.day,.int x.city,.int x.pay,.int x.need,.int x.rate,.int x.flags,.int x.parts]=eu x:=_root_.id rfl
@[simp] theorem axY (x:Bill):kM 15 (eu x)=eu x:=_root_.id rfl
@[simp] theorem aBa (x:Bill)(a0 a1 a2 a3 a4 a5 a6 a7 a8 a9 nP nQ a12 nR nS:D):D.agg (eM [a0,a1,a2,a3,a4,a5,a6,a7,a8,a9,nP,nQ,a12,nR,nS] 0 [.int x.drawer,.int x.drawee,.int x.payee,.int x.sum,.int x.currency,.int x.tenor.kind,.int x.tenor.n,.int x.tenor.unit,.int x.day,.int x.city,.int x.pay,.int x.need,.int x.rate,.int x.flags,.int x.parts])=eu x:=_root_.id rfl
@[simp] theorem av0 (x:Bill):(eu x).c 0=.int x.drawer:=_root_.id rfl
@[simp] theorem av1 (x:Bill):(eu x).c 1=.int x.drawee:=_root_.id rfl
@[simp] theorem av7 (x:Bill):(eu x).c 2=.int x.payee:=_root_.id rfl
@[simp] theorem av8 (x:Bill):(eu x).c 3=.int x.sum:=_root_.id rfl
@[simp] theorem av9 (x:Bill):(eu x).c 4=.int x.currency:=_root_.id rfl
@[simp] theorem awa (x:Bill):(eu x).c 5=.int x.tenor.kind:=_root_.id rfl
@[simp] theorem awb (x:Bill):(eu x).c 6=.int x.tenor.n:=_root_.id rfl
@[simp] theorem awc (x:Bill):(eu x).c 7=.int x.tenor.unit:=_root_.id rfl
@[simp] theorem awd (x:Bill):(eu x).c 8=.int x.day:=_root_.id rfl
@[simp] theorem awe (x:Bill):(eu x).c 9=.int x.city:=_root_.id rfl
@[simp] theorem av2 (x:Bill):(eu x).c 10=.int x.pay:=_root_.id rfl
@[simp] theorem av3 (x:Bill):(eu x).c 11=.int x.need:=_root_.id rfl
@[simp] theorem av4 (x:Bill):(eu x).c 12=.int x.rate:=_root_.id rfl
@[simp] theorem av5 (x:Bill):(eu x).c 13=.int x.flags:=_root_.id rfl
@[simp] theorem av6 (x:Bill):(eu x).c 14=.int x.parts:=_root_.id rfl
def Bill.OK (x:Bill):Prop:=aW x.drawer∧aW x.drawee∧aW x.payee∧aW x.sum∧aW x.currency∧Tenor.OK x.tenor∧aW x.day∧aW x.city∧aW x.pay∧aW x.need∧aW x.rate∧aW x.flags∧aW x.parts
structure Sign where
 kind:Int
 part:Int
 who:Int
 for_:Int
 to:Int
 sum:Int
 day:Int
 city:Int
 flags:Int
 deriving DecidableEq,Inhabited
def kh (x:Sign):D:=.agg [.int x.kind,.int x.part,.int x.who,.int x.for_,.int x.to,.int x.sum,.int x.day,.int x.city,.int x.flags]
@[simp] theorem axC (x:Sign):(kh x).cells=[.int x.kind,.int x.part,.int x.who,.int x.for_,.int x.to,.int x.sum,.int x.day,.int x.city,.int x.flags]:=_root_.id rfl
@[simp] theorem aAY (x:Sign):D.agg [.int x.kind,.int x.part,.int x.who,.int x.for_,.int x.to,.int x.sum,.int x.day,.int x.city,.int x.flags]=kh x:=_root_.id rfl
@[simp] theorem ax4 (x:Sign):kM 9 (kh x)=kh x:=_root_.id rfl
@[simp] theorem axt (x:Sign):(kh x).c 0=.int x.kind:=_root_.id rfl
@[simp] theorem axu (x:Sign):(kh x).c 1=.int x.part:=_root_.id rfl
@[simp] theorem axv (x:Sign):(kh x).c 2=.int x.who:=_root_.id rfl
@[simp] theorem axw (x:Sign):(kh x).c 3=.int x.for_:=_root_.id rfl
@[simp] theorem axx (x:Sign):(kh x).c 4=.int x.to:=_root_.id rfl
@[simp] theorem axy (x:Sign):(kh x).c 5=.int x.sum:=_root_.id rfl
@[simp] theorem axz (x:Sign):(kh x).c 6=.int x.day:=_root_.id rfl
@[simp] theorem axA (x:Sign):(kh x).c 7=.int x.city:=_root_.id rfl
@[simp] theorem axB (x:Sign):(kh x).c 8=.int x.flags:=_root_.id rfl
def signs (l:List Sign):D:=.list (l.map kh)
@[simp] theorem aBF (l:List Sign):(signs l).l=l.map kh:=_root_.id rfl
@[simp] theorem aBE (l:List Sign):(signs l).cells=[signs l]:=_root_.id rfl
abbrev Vk:Ty:=.agg [.int .i64,.int .i64,.int .i64,.int .i64,.int .i64,.int .i64,.int .i64,.int .i64,.int .i64]
def Sign.OK (x:Sign):Prop:=aW x.kind∧aW x.part∧aW x.who∧aW x.for_∧aW x.to∧aW x.sum∧aW x.day∧aW x.city∧aW x.flags
theorem asn {d:D}(h:DTy Vk d):∃x:Sign,d=kh x∧x.OK:=by
 obtain⟨ds,rfl,hs⟩:=h.agg_inv;obtain⟨d0,ds,rfl,h0,hs⟩:=hs.cons_inv;obtain⟨d1,ds,rfl,h1,hs⟩:=hs.cons_inv;obtain⟨d2,ds,rfl,h2,hs⟩:=hs.cons_inv;obtain⟨d3,ds,rfl,h3,hs⟩:=hs.cons_inv;obtain⟨d4,ds,rfl,h4,hs⟩:=hs.cons_inv;obtain⟨d5,ds,rfl,h5,hs⟩:=hs.cons_inv;obtain⟨d6,ds,rfl,h6,hs⟩:=hs.cons_inv;obtain⟨d7,ds,rfl,h7,hs⟩:=hs.cons_inv;obtain⟨d8,ds,rfl,h8,hs⟩:=hs.cons_inv;obtain rfl:=hs.nil_inv;obtain⟨n0,rfl,b0⟩:=h0.i64_inv;obtain⟨n1,rfl,b1⟩:=h1.i64_inv;obtain⟨n2,rfl,b2⟩:=h2.i64_inv;obtain⟨n3,rfl,b3⟩:=h3.i64_inv;obtain⟨n4,rfl,b4⟩:=h4.i64_inv;obtain⟨n5,rfl,b5⟩:=h5.i64_inv;obtain⟨n6,rfl,b6⟩:=h6.i64_inv;obtain⟨n7,rfl,b7⟩:=h7.i64_inv;obtain⟨n8,rfl,b8⟩:=h8.i64_inv;exact⟨⟨n0,n1,n2,n3,n4,n5,n6,n7,n8⟩,rfl,⟨b0,b1,b2,b3,b4,b5,b6,b7,b8⟩⟩
theorem aso {d:D}(h:DTy (.slice Vk) d):∃l:List Sign,d=signs l∧l.length≤maxLen∧∀y,y∈l→Sign.OK y:=by
 obtain⟨xs,rfl,hm,hx⟩:=h.slice_inv;obtain⟨l,rfl,hl⟩:=ky (enc:=kh) (P:=Sign.OK) fun x hh=>asn (hx x hh);exact⟨l,rfl,by simpa using hm,hl⟩
structure Alter where
 at_:Int
 sum:Int
 deriving DecidableEq,Inhabited
def pP (x:Alter):D:=.agg [.int x.at_,.int x.sum]
@[simp] theorem avZ (x:Alter):(pP x).cells=[.int x.at_,.int x.sum]:=_root_.id rfl
@[simp] theorem aAH (x:Alter):D.agg [.int x.at_,.int x.sum]=pP x:=_root_.id rfl
@[simp] theorem avX (x:Alter):(pP x).c 0=.int x.at_:=_root_.id rfl
@[simp] theorem avY (x:Alter):(pP x).c 1=.int x.sum:=_root_.id rfl
def alters (l:List Alter):D:=.list (l.map pP)
@[simp] theorem ax7 (l:List Alter):(alters l).l=l.map pP:=_root_.id rfl
@[simp] theorem ax6 (l:List Alter):(alters l).cells=[alters l]:=_root_.id rfl
abbrev Va:Ty:=.agg [.int .i64,.int .i64]
def Alter.OK (x:Alter):Prop:=aW x.at_∧aW x.sum
theorem af7 {d:D}(h:DTy Va d):∃x:Alter,d=pP x∧x.OK:=by
 obtain⟨ds,rfl,hs⟩:=h.agg_inv;obtain⟨d0,ds,rfl,h0,hs⟩:=hs.cons_inv;obtain⟨d1,ds,rfl,h1,hs⟩:=hs.cons_inv;obtain rfl:=hs.nil_inv;obtain⟨n0,rfl,b0⟩:=h0.i64_inv;obtain⟨n1,rfl,b1⟩:=h1.i64_inv;exact⟨⟨n0,n1⟩,rfl,⟨b0,b1⟩⟩
theorem af8 {d:D}(h:DTy (.slice Va) d):∃l:List Alter,d=alters l∧l.length≤maxLen∧∀y,y∈l→Alter.OK y:=by
 obtain⟨xs,rfl,hm,hx⟩:=h.slice_inv;obtain⟨l,rfl,hl⟩:=ky (enc:=pP) (P:=Alter.OK) fun x hh=>af7 (hx x hh);exact⟨l,rfl,by simpa using hm,hl⟩
structure Act where
 kind:Int
 who:Int
 to:Int
 part:Int
 at_:Int
 sum:Int
 day:Int
 city:Int
 form:Int
 deriving DecidableEq,Inhabited
def jP (x:Act):D:=.agg [.int x.kind,.int x.who,.int x.to,.int x.part,.int x.at_,.int x.sum,.int x.day,.int x.city,.int x.form]
@[simp] theorem avW (x:Act):(jP x).cells=[.int x.kind,.int x.who,.int x.to,.int x.part,.int x.at_,.int x.sum,.int x.day,.int x.city,.int x.form]:=_root_.id rfl
@[simp] theorem aAG (x:Act):D.agg [.int x.kind,.int x.who,.int x.to,.int x.part,.int x.at_,.int x.sum,.int x.day,.int x.city,.int x.form]=jP x:=_root_.id rfl
@[simp] theorem axX (x:Act):kM 9 (jP x)=jP x:=_root_.id rfl
@[simp] theorem avN (x:Act):(jP x).c 0=.int x.kind:=_root_.id rfl
@[simp] theorem avO (x:Act):(jP x).c 1=.int x.who:=_root_.id rfl
@[simp] theorem avP (x:Act):(jP x).c 2=.int x.to:=_root_.id rfl
@[simp] theorem avQ (x:Act):(jP x).c 3=.int x.part:=_root_.id rfl
@[simp] theorem avR (x:Act):(jP x).c 4=.int x.at_:=_root_.id rfl
@[simp] theorem avS (x:Act):(jP x).c 5=.int x.sum:=_root_.id rfl
@[simp] theorem avT (x:Act):(jP x).c 6=.int x.day:=_root_.id rfl
@[simp] theorem avU (x:Act):(jP x).c 7=.int x.city:=_root_.id rfl
@[simp] theorem avV (x:Act):(jP x).c 8=.int x.form:=_root_.id rfl
def acts (l:List Act):D:=.list (l.map jP)
@[simp] theorem axS (l:List Act):(acts l).l=l.map jP:=_root_.id rfl
@[simp] theorem axR (l:List Act):(acts l).cells=[acts l]:=_root_.id rfl
abbrev U9:Ty:=.agg [.int .i64,.int .i64,.int .i64,.int .i64,.int .i64,.int .i64,.int .i64,.int .i64,.int .i64]
def Act.OK (x:Act):Prop:=aW x.kind∧aW x.who∧aW x.to∧aW x.part∧aW x.at_∧aW x.sum∧aW x.day∧aW x.city∧aW x.form
theorem afW {d:D}(h:DTy U9 d):∃x:Act,d=jP x∧x.OK:=by
 obtain⟨ds,rfl,hs⟩:=h.agg_inv;obtain⟨d0,ds,rfl,h0,hs⟩:=hs.cons_inv;obtain⟨d1,ds,rfl,h1,hs⟩:=hs.cons_inv;obtain⟨d2,ds,rfl,h2,hs⟩:=hs.cons_inv;obtain⟨d3,ds,rfl,h3,hs⟩:=hs.cons_inv;obtain⟨d4,ds,rfl,h4,hs⟩:=hs.cons_inv;obtain⟨d5,ds,rfl,h5,hs⟩:=hs.cons_inv;obtain⟨d6,ds,rfl,h6,hs⟩:=hs.cons_inv;obtain⟨d7,ds,rfl,h7,hs⟩:=hs.cons_inv;obtain⟨d8,ds,rfl,h8,hs⟩:=hs.cons_inv;obtain rfl:=hs.nil_inv;obtain⟨n0,rfl,b0⟩:=h0.i64_inv;obtain⟨n1,rfl,b1⟩:=h1.i64_inv;obtain⟨n2,rfl,b2⟩:=h2.i64_inv;obtain⟨n3,rfl,b3⟩:=h3.i64_inv;obtain⟨n4,rfl,b4⟩:=h4.i64_inv;obtain⟨n5,rfl,b5⟩:=h5.i64_inv;obtain⟨n6,rfl,b6⟩:=h6.i64_inv;obtain⟨n7,rfl,b7⟩:=h7.i64_inv;obtain⟨n8,rfl,b8⟩:=h8.i64_inv;exact⟨⟨n0,n1,n2,n3,n4,n5,n6,n7,n8⟩,rfl,⟨b0,b1,b2,b3,b4,b5,b6,b7,b8⟩⟩
theorem afX {d:D}(h:DTy (.slice U9) d):∃l:List Act,d=acts l∧l.length≤maxLen∧∀y,y∈l→Act.OK y:=by
 obtain⟨xs,rfl,hm,hx⟩:=h.slice_inv;obtain⟨l,rfl,hl⟩:=ky (enc:=jP) (P:=Act.OK) fun x hh=>afW (hx x hh);exact⟨l,rfl,by simpa using hm,hl⟩
structure Fact where
 kind:Int
 at_:Int
 n:Int
 deriving DecidableEq,Inhabited
def q6 (x:Fact):D:=.agg [.int x.kind,.int x.at_,.int x.n]
@[simp] theorem awF (x:Fact):(q6 x).cells=[.int x.kind,.int x.at_,.int x.n]:=_root_.id rfl
@[simp] theorem aAN (x:Fact):D.agg [.int x.kind,.int x.at_,.int x.n]=q6 x:=_root_.id rfl
@[simp] theorem awC (x:Fact):(q6 x).c 0=.int x.kind:=_root_.id rfl
@[simp] theorem awD (x:Fact):(q6 x).c 1=.int x.at_:=_root_.id rfl
@[simp] theorem awE (x:Fact):(q6 x).c 2=.int x.n:=_root_.id rfl
def facts (l:List Fact):D:=.list (l.map q6)
@[simp] theorem azA (l:List Fact):(facts l).l=l.map q6:=_root_.id rfl
@[simp] theorem azz (l:List Fact):(facts l).cells=[facts l]:=_root_.id rfl
abbrev Vd:Ty:=.agg [.int .i64,.int .i64,.int .i64]
def Fact.OK (x:Fact):Prop:=aW x.kind∧aW x.at_∧aW x.n
theorem aiZ {d:D}(h:DTy Vd d):∃x:Fact,d=q6 x∧x.OK:=by
 obtain⟨ds,rfl,hs⟩:=h.agg_inv;obtain⟨d0,ds,rfl,h0,hs⟩:=hs.cons_inv;obtain⟨d1,ds,rfl,h1,hs⟩:=hs.cons_inv;obtain⟨d2,ds,rfl,h2,hs⟩:=hs.cons_inv;obtain rfl:=hs.nil_inv;obtain⟨n0,rfl,b0⟩:=h0.i64_inv;obtain⟨n1,rfl,b1⟩:=h1.i64_inv;obtain⟨n2,rfl,b2⟩:=h2.i64_inv;exact⟨⟨n0,n1,n2⟩,rfl,⟨b0,b1,b2⟩⟩
theorem ai0 {d:D}(h:DTy (.slice Vd) d):∃l:List Fact,d=facts l∧l.length≤maxLen∧∀y,y∈l→Fact.OK y:=by
 obtain⟨xs,rfl,hm,hx⟩:=h.slice_inv;obtain⟨l,rfl,hl⟩:=ky (enc:=q6) (P:=Fact.OK) fun x hh=>aiZ (hx x hh);exact⟨l,rfl,by simpa using hm,hl⟩
structure File where
 bill:Bill
 signs:List Sign
 alters:List Alter
 acts:List Act
 facts:List Fact
 deriving Inhabited
def cZ (x:File):D:=.agg [.int x.bill.drawer,.int x.bill.drawee,.int x.bill.payee,.int x.bill.sum,.int x.bill.currency,.int x.bill.tenor.kind,.int x.bill.tenor.n,.int x.bill.tenor.unit,.int x.bill.day,.int x.bill.city,.int x.bill.pay,.int x.bill.need,.int x.bill.rate,.int x.bill.flags,.int x.bill.parts,signs x.signs,alters x.alters,acts x.acts,facts x.facts]
@[simp] theorem awN (x:File):(cZ x).cells=[.int x.bill.drawer,.int x.bill.drawee,.int x.bill.payee,.int x.bill.sum,.int x.bill.currency,.int x.bill.tenor.kind,.int x.bill.tenor.n,.int x.bill.tenor.unit,.int x.bill.day,.int x.bill.city,.int x.bill.pay,.int x.bill.need,.int x.bill.rate,.int x.bill.flags,.int x.bill.parts,signs x.signs,alters x.alters,acts x.acts,facts x.facts]:=_root_.id rfl
@[simp] theorem aAO (x:File):D.agg [.int x.bill.drawer,.int x.bill.drawee,.int x.bill.payee,.int x.bill.sum,.int x.bill.currency,.int x.bill.tenor.kind,.int x.bill.tenor.n,.int x.bill.tenor.unit,.int x.bill.day,.int x.bill.city,.int x.bill.pay,.int x.bill.need,.int x.bill.rate,.int x.bill.flags,.int x.bill.parts,signs x.signs,alters x.alters,acts x.acts,facts x.facts]=cZ x:=_root_.id rfl
@[simp] theorem ax0 (x:File):kM 19 (cZ x)=cZ x:=_root_.id rfl
@[simp] theorem aBb (x:File)(a0 a1 a2 a3 a4 a5 a6 a7 a8 a9 nP nQ a12 nR nS qN qO qP sw:D):D.agg (eM [a0,a1,a2,a3,a4,a5,a6,a7,a8,a9,nP,nQ,a12,nR,nS,qN,qO,qP,sw] 0 [.int x.bill.drawer,.int x.bill.drawee,.int x.bill.payee,.int x.bill.sum,.int x.bill.currency,.int x.bill.tenor.kind,.int x.bill.tenor.n,.int x.bill.tenor.unit,.int x.bill.day,.int x.bill.city,.int x.bill.pay,.int x.bill.need,.int x.bill.rate,.int x.bill.flags,.int x.bill.parts,signs x.signs,alters x.alters,acts x.acts,facts x.facts])=cZ x:=_root_.id rfl
@[simp] theorem awL (x:File):(cZ x).c 5=.int x.bill.tenor.kind:=_root_.id rfl
@[simp] theorem awM (x:File):(cZ x).c 8=.int x.bill.day:=_root_.id rfl
@[simp] theorem awG (x:File):(cZ x).c 14=.int x.bill.parts:=_root_.id rfl
@[simp] theorem awH (x:File):(cZ x).c 15=signs x.signs:=_root_.id rfl
@[simp] theorem awI (x:File):(cZ x).c 16=alters x.alters:=_root_.id rfl
@[simp] theorem awJ (x:File):(cZ x).c 17=acts x.acts:=_root_.id rfl
@[simp] theorem awK (x:File):(cZ x).c 18=facts x.facts:=_root_.id rfl
def File.OK (x:File):Prop:=Bill.OK x.bill∧(x.signs.length≤maxLen∧∀y,y∈x.signs→Sign.OK y)∧(x.alters.length≤maxLen∧∀y,y∈x.alters→Alter.OK y)∧(x.acts.length≤maxLen∧∀y,y∈x.acts→Act.OK y)∧(x.facts.length≤maxLen∧∀y,y∈x.facts→Fact.OK y)
structure Case where
 file:File
 sign:Int
 holder:Int
 defence:Int
 due:Int
 day:Int
 deriving Inhabited
def dZ (x:Case):D:=.agg [.int x.file.bill.drawer,.int x.file.bill.drawee,.int x.file.bill.payee,.int x.file.bill.sum,.int x.file.bill.currency,.int x.file.bill.tenor.kind,.int x.file.bill.tenor.n,.int x.file.bill.tenor.unit,.int x.file.bill.day,.int x.file.bill.city,.int x.file.bill.pay,.int x.file.bill.need,.int x.file.bill.rate,.int x.file.bill.flags,.int x.file.bill.parts,signs x.file.signs,alters x.file.alters,acts x.file.acts,facts x.file.facts,.int x.sign,.int x.holder,.int x.defence,.int x.due,.int x.day]
@[simp] theorem awo (x:Case):(dZ x).cells=[.int x.file.bill.drawer,.int x.file.bill.drawee,.int x.file.bill.payee,.int x.file.bill.sum,.int x.file.bill.currency,.int x.file.bill.tenor.kind,.int x.file.bill.tenor.n,.int x.file.bill.tenor.unit,.int x.file.bill.day,.int x.file.bill.city,.int x.file.bill.pay,.int x.file.bill.need,.int x.file.bill.rate,.int x.file.bill.flags,.int x.file.bill.parts,signs x.file.signs,alters x.file.alters,acts x.file.acts,facts x.file.facts,.int x.sign,.int x.holder,.int x.defence,.int x.due,.int x.day]:=_root_.id rfl
@[simp] theorem aAJ (x:Case):D.agg [.int x.file.bill.drawer,.int x.file.bill.drawee,.int x.file.bill.payee,.int x.file.bill.sum,.int x.file.bill.currency,.int x.file.bill.tenor.kind,.int x.file.bill.tenor.n,.int x.file.bill.tenor.unit,.int x.file.bill.day,.int x.file.bill.city,.int x.file.bill.pay,.int x.file.bill.need,.int x.file.bill.rate,.int x.file.bill.flags,.int x.file.bill.parts,signs x.file.signs,alters x.file.alters,acts x.file.acts,facts x.file.facts,.int x.sign,.int x.holder,.int x.defence,.int x.due,.int x.day]=dZ x:=_root_.id rfl
@[simp] theorem af6 (x:Case):kM 24 (dZ x)=dZ x:=_root_.id rfl
@[simp] theorem aqp (x:Case)(a0 a1 a2 a3 a4 a5 a6 a7 a8 a9 nP nQ a12 nR nS qN qO qP sw a19 a20 a21 a22 a23:D):D.agg (eM [a0,a1,a2,a3,a4,a5,a6,a7,a8,a9,nP,nQ,a12,nR,nS,qN,qO,qP,sw,a19,a20,a21,a22,a23] 0 [.int x.file.bill.drawer,.int x.file.bill.drawee,.int x.file.bill.payee,.int x.file.bill.sum,.int x.file.bill.currency,.int x.file.bill.tenor.kind,.int x.file.bill.tenor.n,.int x.file.bill.tenor.unit,.int x.file.bill.day,.int x.file.bill.city,.int x.file.bill.pay,.int x.file.bill.need,.int x.file.bill.rate,.int x.file.bill.flags,.int x.file.bill.parts,signs x.file.signs,alters x.file.alters,acts x.file.acts,facts x.file.facts,.int x.sign,.int x.holder,.int x.defence,.int x.due,.int x.day])=dZ x:=_root_.id rfl
@[simp] theorem awn (x:Case):(dZ x).c 9=.int x.file.bill.city:=_root_.id rfl
@[simp] theorem awg (x:Case):(dZ x).c 10=.int x.file.bill.pay:=_root_.id rfl
@[simp] theorem awh (x:Case):(dZ x).c 15=signs x.file.signs:=_root_.id rfl
@[simp] theorem awi (x:Case):(dZ x).c 19=.int x.sign:=_root_.id rfl
@[simp] theorem awj (x:Case):(dZ x).c 20=.int x.holder:=_root_.id rfl
@[simp] theorem awk (x:Case):(dZ x).c 21=.int x.defence:=_root_.id rfl
@[simp] theorem awl (x:Case):(dZ x).c 22=.int x.due:=_root_.id rfl
@[simp] theorem awm (x:Case):(dZ x).c 23=.int x.day:=_root_.id rfl
def cases(l:List Case):D:=.list (l.map dZ)
abbrev au0:Ty:=.agg [.int .i64,.int .i64,.int .i64,.int .i64,.int .i64,.int .i64,.int .i64,.int .i64,.int .i64,.int .i64,.int .i64,.int .i64,.int .i64,.int .i64,.int .i64,.slice Vk,.slice Va,.slice U9,.slice Vd,.int .i64,.int .i64,.int .i64,.int .i64,.int .i64]
def Case.OK (x:Case):Prop:=File.OK x.file∧aW x.sign∧aW x.holder∧aW x.defence∧aW x.due∧aW x.day
theorem ag8 {d:D}(h:DTy au0 d):∃x:Case,d=dZ x∧x.OK:=by
 obtain⟨ds,rfl,hs⟩:=h.agg_inv;obtain⟨d0,ds,rfl,h0,hs⟩:=hs.cons_inv;obtain⟨d1,ds,rfl,h1,hs⟩:=hs.cons_inv;obtain⟨d2,ds,rfl,h2,hs⟩:=hs.cons_inv;obtain⟨d3,ds,rfl,h3,hs⟩:=hs.cons_inv;obtain⟨d4,ds,rfl,h4,hs⟩:=hs.cons_inv;obtain⟨d5,ds,rfl,h5,hs⟩:=hs.cons_inv;obtain⟨d6,ds,rfl,h6,hs⟩:=hs.cons_inv;obtain⟨d7,ds,rfl,h7,hs⟩:=hs.cons_inv;obtain⟨d8,ds,rfl,h8,hs⟩:=hs.cons_inv;obtain⟨d9,ds,rfl,h9,hs⟩:=hs.cons_inv;obtain⟨d10,ds,rfl,oe,hs⟩:=hs.cons_inv;obtain⟨d11,ds,rfl,sP,hs⟩:=hs.cons_inv;obtain⟨d12,ds,rfl,NM,hs⟩:=hs.cons_inv;obtain⟨d13,ds,rfl,h13,hs⟩:=hs.cons_inv;obtain⟨d14,ds,rfl,h14,hs⟩:=hs.cons_inv;obtain⟨d15,ds,rfl,Iw,hs⟩:=hs.cons_inv;obtain⟨d16,ds,rfl,Ix,hs⟩:=hs.cons_inv;obtain⟨d17,ds,rfl,Iy,hs⟩:=hs.cons_inv;obtain⟨d18,ds,rfl,Iz,hs⟩:=hs.cons_inv;obtain⟨d19,ds,rfl,IA,hs⟩:=hs.cons_inv;obtain⟨d20,ds,rfl,h20,hs⟩:=hs.cons_inv;obtain⟨d21,ds,rfl,h21,hs⟩:=hs.cons_inv;obtain⟨d22,ds,rfl,h22,hs⟩:=hs.cons_inv;obtain⟨d23,ds,rfl,h23,hs⟩:=hs.cons_inv;obtain rfl:=hs.nil_inv;obtain⟨n0,rfl,b0⟩:=h0.i64_inv;obtain⟨n1,rfl,b1⟩:=h1.i64_inv;obtain⟨n2,rfl,b2⟩:=h2.i64_inv;obtain⟨n3,rfl,b3⟩:=h3.i64_inv;obtain⟨n4,rfl,b4⟩:=h4.i64_inv;obtain⟨n5,rfl,b5⟩:=h5.i64_inv;obtain⟨n6,rfl,b6⟩:=h6.i64_inv;obtain⟨n7,rfl,b7⟩:=h7.i64_inv;obtain⟨n8,rfl,b8⟩:=h8.i64_inv;obtain⟨n9,rfl,b9⟩:=h9.i64_inv;obtain⟨n10,rfl,b10⟩:=oe.i64_inv;obtain⟨n11,rfl,b11⟩:=sP.i64_inv;obtain⟨n12,rfl,b12⟩:=NM.i64_inv;obtain⟨n13,rfl,b13⟩:=h13.i64_inv;obtain⟨n14,rfl,b14⟩:=h14.i64_inv;obtain⟨n15,rfl,b15,c15⟩:=aso Iw;obtain⟨n16,rfl,b16,c16⟩:=af8 Ix;obtain⟨n17,rfl,b17,c17⟩:=afX Iy;obtain⟨n18,rfl,b18,c18⟩:=ai0 Iz;obtain⟨n19,rfl,b19⟩:=IA.i64_inv;obtain⟨n20,rfl,b20⟩:=h20.i64_inv;obtain⟨n21,rfl,b21⟩:=h21.i64_inv;obtain⟨n22,rfl,b22⟩:=h22.i64_inv;obtain⟨n23,rfl,b23⟩:=h23.i64_inv;exact⟨⟨⟨⟨n0,n1,n2,n3,n4,⟨n5,n6,n7⟩,n8,n9,n10,n11,n12,n13,n14⟩,n15,n16,n17,n18⟩,n19,n20,n21,n22,n23⟩,rfl,⟨⟨⟨b0,b1,b2,b3,b4,⟨b5,b6,b7⟩,b8,b9,b10,b11,b12,b13,b14⟩,⟨b15,c15⟩,⟨b16,c16⟩,⟨b17,c17⟩,⟨b18,c18⟩⟩,b19,b20,b21,b22,b23⟩⟩
structure Cell where
 known:Bool
 n:Int
 deriving DecidableEq,Inhabited
def cP (x:Cell):D:=.agg [.bool x.known,.int x.n]
@[simp] theorem awr (x:Cell):(cP x).cells=[.bool x.known,.int x.n]:=_root_.id rfl
@[simp] theorem aAK (x:Cell):D.agg [.bool x.known,.int x.n]=cP x:=_root_.id rfl
@[simp] theorem awp (x:Cell):(cP x).c 0=.bool x.known:=_root_.id rfl
@[simp] theorem awq (x:Cell):(cP x).c 1=.int x.n:=_root_.id rfl
def cells (l:List Cell):D:=.list (l.map cP)
@[simp] theorem ayn (l:List Cell):(cells l).l=l.map cP:=_root_.id rfl
@[simp] theorem aym (l:List Cell):(cells l).cells=[cells l]:=_root_.id rfl
structure Said where
 cell:Cell
 order:Int
 path:List Int
 err:Int
 deriving Inhabited
def kg (x:Said):D:=.agg [.bool x.cell.known,.int x.cell.n,.int x.order,ints x.path,.int x.err]
@[simp] theorem axp (x:Said):(kg x).cells=[.bool x.cell.known,.int x.cell.n,.int x.order,ints x.path,.int x.err]:=_root_.id rfl
@[simp] theorem aAW (x:Said):D.agg [.bool x.cell.known,.int x.cell.n,.int x.order,ints x.path,.int x.err]=kg x:=_root_.id rfl
@[simp] theorem ax3 (x:Said):kM 5 (kg x)=kg x:=_root_.id rfl
@[simp] theorem axk (x:Said):(kg x).c 0=.bool x.cell.known:=_root_.id rfl
@[simp] theorem axl (x:Said):(kg x).c 1=.int x.cell.n:=_root_.id rfl
@[simp] theorem axm (x:Said):(kg x).c 2=.int x.order:=_root_.id rfl
@[simp] theorem axn (x:Said):(kg x).c 3=ints x.path:=_root_.id rfl
@[simp] theorem axo (x:Said):(kg x).c 4=.int x.err:=_root_.id rfl
@[simp] theorem aBO (a0 x0:D):eM [a0] 0 [x0]=[x0]:=_root_.id rfl
@[simp] theorem aBP (a0 a1 x0 x1:D):eM [a0,a1] 0 [x0,x1]=[x0,x1]:=_root_.id rfl
@[simp] theorem aBQ (a0 a1 a2 x0 x1 x2:D):eM [a0,a1,a2] 0 [x0,x1,x2]=[x0,x1,x2]:=_root_.id rfl
@[simp] theorem aBR (a0 a1 a2 a3 x0 x1 x2 x3:D):eM [a0,a1,a2,a3] 0 [x0,x1,x2,x3]=[x0,x1,x2,x3]:=_root_.id rfl
@[simp] theorem aBS (a0 a1 a2 a3 a4 x0 x1 x2 x3 x4:D):eM [a0,a1,a2,a3,a4] 0 [x0,x1,x2,x3,x4]=[x0,x1,x2,x3,x4]:=_root_.id rfl
@[simp] theorem aBT (a0 a1 a2 a3 a4 a5 x0 x1 x2 x3 x4 x5:D):eM [a0,a1,a2,a3,a4,a5] 0 [x0,x1,x2,x3,x4,x5]=[x0,x1,x2,x3,x4,x5]:=_root_.id rfl
@[simp] theorem aBU (a0 a1 a2 a3 a4 a5 a6 a7 a8 x0 x1 x2 x3 x4 x5 x6 x7 x8:D):eM [a0,a1,a2,a3,a4,a5,a6,a7,a8] 0 [x0,x1,x2,x3,x4,x5,x6,x7,x8]=[x0,x1,x2,x3,x4,x5,x6,x7,x8]:=_root_.id rfl
end Rm
set_option maxRecDepth 100000
namespace Rm
open Go Go.Proofs Cx Go.RowKit Go.Lib
def fq (day:Int):Int×Int×Int:=
 let n:=day+730425
 let e:=n/146097
 let r:=n%146097
 let y:=(r-r/1460+r/36524-r/146096)/365
 let r:=r-(365*y+y/4-y/100)
 let m:=(5*r+2)/153
 let dom:=r-(153*m+2)/5+1
 let month:=if 12<m+3 then m+3-12 else m+3
 (if month<3 then y+400*e+1 else y+400*e,month,dom)
def xB (rest feasts shut:List Int)(day:Int):Bool:=
 !rest.contains ((day+5)%7)&&(!feasts.contains (100*(fq day).2.1+(fq day).2.2)&& !shut.contains day)
def W0 (rest feasts shut:List Int)(a b:Int):List Int:=((List.range (b-a+1).toNat).map fun(k:Nat)=>a+k).filter (xB rest feasts shut)
def xg (d:D):List Int:=d.l.map D.i
def W5 (ds:List D):List D:=
 let c:=(ds.getD 2 .none).deref
 (W0 (xg (c.c 3)) (xg (c.c 4)) (xg (c.c 5)) (ds.getD 0 .none).deref.i (ds.getD 1 .none).deref.i).map fun d=>.tup [.int d]
def yG (r:D)(city:Int):Int:=if 0≤city∧city<(r.c 1).l.length then(((r.c 1).l.getD city.toNat .none).c 1).i else-1
def QW (ds:List D):D:=
 let r:=ds.getD 0 .none
 let forum:=(ds.getD 1 .none).i
 let c:=ds.getD 2 .none
 let s:=(c.c 15).l.getD (c.c 19).i.toNat .none
 let who:=(s.c 2).i
 if who<0∨(r.c 3).l.length≤who∨forum<0∨(r.c 4).l.length≤forum then .list [] else
 let out:=[forum,yG r (s.c 7).i,yG r (c.c 10).i,yG r (c.c 9).i,yG r (((r.c 3).l.getD who.toNat .none).c 1).i]
 if(-1)∈out then .list [] else ints out
def Xr:List (Nat×(aL→List D→Option D)):=[(180,fun _ ds=>zW ds),(40,AQ (ae Hi) (ae Hj) QW),(204,Ez (ae sE) 1000 1 W5),(82,xW),(116,vB 116),(176,vB 176),(178,vB 178)]
def ext:Nat→Option (aL→List D→Option D):=aV Xr
theorem asx:TabOK ctx tab ext:=by
 refine⟨clos,its,fun f pc _ h=>asy f pc h,fun f g hg Φ hΦ dN ds d h=>?_⟩
 have:=EH (R:=fun f (g:aL→List D→Option D)=>∀Φ,cX ctx Φ→gi ctx Φ→∀ds d,g Φ ds=some d→(∀s,ctx.sig f=some s→yr ctx f s ds d)∧
  ∀cs ys,ctx.cap f=some cs→jY cs.args cs.res=some ys→∃xs,d=.list xs∧(∀x,x∈xs→∃ds',x=.tup ds'∧ds'.length=ys.length)∧ly ctx f cs.caps ys ds xs) (l:=Xr)
  ⟨fun Φ hΦ dN ds d h=>⟨fun s hs=>by obtain⟨s',h1,h2⟩:=akq ds d h;rw[hs] at h1;cases h1;exact h2,fun cs ys hc hi=>by cases hc⟩,
   fun Φ hΦ dN ds d h=>⟨fun s hs=>by cases hs;exact⟨fun _=>apD clos hΦ dN Tryz.func40 (aB Hi aaZ) (aB Hj aa0) h,fun shs obs hm=>by cases hm⟩,fun cs ys hc hi=>by cases hc⟩,
   fun Φ hΦ dN ds d h=>⟨fun s hs=>(by cases hs),fun cs ys hc hi=>by
    cases hc;cases hi;exact anK clos hΦ dN Tryz.func204 ahf h rfl⟩,
   fun Φ hΦ dN ds d h=>⟨fun s hs=>by obtain⟨s',h1,h2⟩:=arx hΦ h;rw[hs] at h1;cases h1;exact h2,fun cs ys hc hi=>by cases hc⟩,
   fun Φ hΦ dN ds d h=>⟨fun s hs=>by cases hs;exact⟨fun _=>Vn (Φ:=Φ) rfl rfl h,fun shs obs hm=>by cases hm⟩,fun cs ys hc hi=>by cases hc⟩,
   fun Φ hΦ dN ds d h=>⟨fun s hs=>by cases hs;exact⟨fun _=>Vn (Φ:=Φ) rfl rfl h,fun shs obs hm=>by cases hm⟩,fun cs ys hc hi=>by cases hc⟩,
   fun Φ hΦ dN ds d h=>⟨fun s hs=>by cases hs;exact⟨fun _=>Vn (Φ:=Φ) rfl rfl h,fun shs obs hm=>by cases hm⟩,fun cs ys hc hi=>by cases hc⟩,trivial⟩ f g hg
 exact this Φ hΦ dN ds d h
abbrev T:cC:=ej tab ext
theorem SK {f:Nat}{ds:List D}{d:D}(hx:ext f=some (vB f))(h:ak T1 f ds d):ak T f ds d:=.of_ext hx ⟨0,fun _ _=>au8 h⟩
theorem ak.of_nsl {tab:Nat→Option PC}{ext:Nat→Option (aL→List D→Option D)}{f:Nat}{pa pb:PC}{spec:List D→D}{ds:List D}{ta tb:PT}(hx:ext f=some (AQ pa pb spec))(hta:tree pa=ta)(htb:tree pb=tb)
 (h:(∃xs,xs≠[]∧spec ds=.list xs∧aI (ej tab ext) ta (lE ds) (fun x=>x=.ret (.list xs)))∨(spec ds=.list []∧aI (ej tab ext) tb (lE ds) (fun x=>x=.ret (.list [])))):ak (ej tab ext) f ds (spec ds):=by
 refine ak.of_ext hx ?_;rcases h with⟨xs,h1,h2,h3⟩|⟨h2,h3⟩
 ·obtain⟨x,rfl,n0,hn⟩:=LJ (c:=pa) (hta▸h3);refine⟨n0,fun n hle=>?_⟩;unfold AQ;rw[if_pos (.inl ⟨n,xs,hn n hle,h1,h2⟩)]
 ·obtain⟨x,rfl,n0,hn⟩:=LJ (c:=pb) (htb▸h3);refine⟨n0,fun n hle=>?_⟩;unfold AQ;rw[if_pos (.inr ⟨n,hn n hle,h2⟩)]
end Rm
namespace Rm
open Go Go.Proofs Cx
def eO (n:Nat)(p:Nat→Bool):Bool:=(List.range n).all p
theorem Wc {n:Nat}{p:Nat→Bool}(h:∀k,k<n→p k=true):eO n p=true:=bF.2 fun k hk=>h k (bZ.1 hk)
theorem af4 {n k:Nat}{p:Nat→Bool}(hk:k<n)(h:p k=false):eO n p=false:=List.all_eq_false.2 ⟨k,bZ.2 hk,by simp[h]⟩
theorem yC {n:Nat}{p:Nat→Bool}:eO n p=true↔∀k,k<n→p k=true:=⟨fun h k hk=>bF.1 h k (bZ.2 hk),Wc⟩
def fQ (n:Nat)(f:Nat→Int):Int:=(((List.range n).map f).find? fun x=>x !=0).getD 0
theorem NA {n:Nat}{f:Nat→Int}(h:∀k,k<n→f k=0):fQ n f=0:=by
 unfold fQ;rw[vN.2]
 ·rfl
 ·intro x hx;obtain⟨k,hk,rfl⟩:=ei.1 hx;simp[h k (bZ.1 hk)]
theorem Nz {n k:Nat}{f:Nat→Int}(hk:k<n)(hj:∀j,j<k→f j=0)(h:f k≠0):fQ n f=f k:=by
 unfold fQ;have e:List.range n=List.range k++k::(List.range' (k+1) (n-k-1)):=by
  rw[L3,L3,←GP];have:=List.range'_append_1 (s:=0) (m:=k) (n:=n-k-1+1);rw[gS] at this;rw[this];congr 1;omega
 rw[e,px,LW,vN.2,Option.none_or,gk,List.find?_cons_of_pos (by simpa using h)]
 ·rfl
 ·intro x hx;obtain⟨j,uD,rfl⟩:=ei.1 hx;simp[hj j (bZ.1 uD)]
theorem XB {n:Nat}{f:Nat→Int}:fQ n f=0↔∀k,k<n→f k=0:=by
 refine⟨fun h k=>?_,NA⟩
 induction k using Nat.strongRecOn with
 |ind k ih=>
  intro hk;refine vJ fun aw=>?_;rw[Nz hk (fun j hj=>ih j hj (by omega)) aw] at h;exact aw h
section
variable {T:cC} {id:Nat} {bz bx lr lo:List Nat} {a:PC} {ρ:Env} {Q:Out→Prop}
theorem gA (N:Nat)(p:Nat→Bool)(str fJ:Nat→List D)(h0:lr.map ρ.r=str 0∧lo.map ρ.o=fJ 0)
 (step:∀k,k<N→p k=true→aI T (round id bz bx lr lo a) (ρ.put lr (str k) lo (fJ k)) (fg ρ id bz bx lr lo (fun vr vo=>vr=str (k+1)∧vo=fJ (k+1)) Q))
 (bad:∀k,k<N→p k=false→eO N p=false→aI T (round id bz bx lr lo a) (ρ.put lr (str k) lo (fJ k)) (fg ρ id bz bx lr lo (fun _ _=>False) Q))
 (last:eO N p=true→aI T (round id bz bx lr lo a) (ρ.put lr (str N) lo (fJ N)) (fg ρ id bz bx lr lo (fun _ _=>False) Q)):aP T (.block id bz bx (.loop lr lo a)) ρ Q:=
 .scan N (fun k=>p k=true) str fJ h0 (fun k hk _ h=>step k hk h) (fun k hk _ h=>bad k hk (by simpa using h) (af4 hk (by simpa using h))) (fun h=>last (Wc h))
theorem oZ (N:Nat)(f:Nat→Int)(str fJ:Nat→List D)(h0:lr.map ρ.r=str 0∧lo.map ρ.o=fJ 0)
 (step:∀k,k<N→f k=0→aI T (round id bz bx lr lo a) (ρ.put lr (str k) lo (fJ k)) (fg ρ id bz bx lr lo (fun vr vo=>vr=str (k+1)∧vo=fJ (k+1)) Q))
 (bad:∀k,k<N→f k≠0→fQ N f=f k→aI T (round id bz bx lr lo a) (ρ.put lr (str k) lo (fJ k)) (fg ρ id bz bx lr lo (fun _ _=>False) Q))
 (last:fQ N f=0→aI T (round id bz bx lr lo a) (ρ.put lr (str N) lo (fJ N)) (fg ρ id bz bx lr lo (fun _ _=>False) Q)):aP T (.block id bz bx (.loop lr lo a)) ρ Q:=
 .scan N (fun k=>f k=0) str fJ h0 (fun k hk _ h=>step k hk h) (fun k hk hj h=>bad k hk h (Nz hk hj h)) (fun h=>last (NA h))
end
theorem bp {k n:Nat}(h:k<n)(hn:n≤4294967296):IntKind.i64.wrap ((k:Int)+1)=(k:Int)+1:=bU (by omega)
theorem vF {k:Nat}(hn:k≤4294967296):IntKind.i64.wrap ((k:Int)-1)=(k:Int)-1:=bU (by omega)
def aC (i n:Int):Bool:=decide (0≤i)&&decide (i<n)
def wi (n a b:Int):Bool:=decide (a≤n)&&decide (n≤b)
theorem gd (i n:Int):ak T 105 [.int i,.int n] (.bool (aC i n)):=by
 refine .of_tree rfl (lA 15 (by kernel_rfl)) auc ?_;simp[Uo,aC];by_cases h:0≤i<;>simp[h]
theorem qA (i n:Int):ak T 49 [.int i,.int n] (.bool (aC i n)):=by
 refine .of_tree rfl (lA 9 (by kernel_rfl)) auq ?_;simp[UB,aC];by_cases h:0≤i<;>simp[h]
theorem cV (n a b:Int):ak T 74 [.int n,.int a,.int b] (.bool (wi n a b)):=by
 refine .of_tree rfl (lA 96 (by kernel_rfl)) atK ?_;simp[TY,wi];by_cases h:a≤n<;>simp[h]
theorem idx_eq {α:Type}[DecidableEq α]{l:List α}{x z:α}{k:Nat}(hk:k<l.length)(hj:∀j,j<k→l.getD j z≠x)(h:¬l.getD k z≠x):x∈l∧l.findIdx (fun y=>decide (y=x))=k:=by
 have e:l[k]=x:=by simpa [hk] using h
 refine⟨e▸cS hk,(List.findIdx_eq hk).2 ⟨by simp[e],fun j iz=>?_⟩⟩;have gr:j<l.length:=by omega
 simpa [gr] using hj j iz
theorem Zz {α:Type}[DecidableEq α]{l:List α}{x z:α}(hj:∀j,j<l.length→l.getD j z≠x):¬x∈l:=fun hm=>by
 obtain⟨j,gr,rfl⟩:=nK hm;have:=hj j gr;simp[gr] at this
def uQ {α:Type}[DecidableEq α](l:List α)(x:α):Int:=if x∈l then(l.findIdx (fun y=>decide (y=x)):Nat) else-1
def hasB {α:Type}[DecidableEq α](l:List α)(x:α):Bool:=l.any fun y=>decide (y=x)
theorem NZ {α:Type}[DecidableEq α]{l:List α}{x:α}:hasB l x=true↔x∈l:=by simp[hasB]
theorem Yb {α:Type}[DecidableEq α]{l:List α}{x:α}:hasB l x=false↔¬x∈l:=by rw[←NZ];simp
theorem Zy {α:Type}[DecidableEq α](l:List α)(x:α):decide (0≤uQ l x)=hasB l x:=by
 unfold uQ;by_cases h:x∈l
 ·rw[NZ.2 h];simp[h]
 ·rw[Yb.2 h];simp[h]
@[simp] theorem ayw (a b:ByteArray):zG .eql a b=decide (a=b):=by
  simp only[zG,ByteArray.toList_eq];by_cases h:a=b
  ·subst h;simp
  ·rw[decide_eq_false h,beq_eq_false_iff_ne];intro e;have:a.data=b.data:=by rw[←tS];exact e
   exact h (by cases a;cases b;cases this;rfl)
@[simp] theorem azn (ρ:Env)(x i:PE):PE.ev ρ (.sidx x i)=.v (.int .u8 ((PE.ev ρ x).s.data.getD (PE.ev ρ i).i.toNat 0).toNat):=_root_.id rfl
@[simp] theorem azr (ρ:Env)(x i:PE):PE.ev ρ (.sok x i)=.v (.bool (decide (0≤(PE.ev ρ i).i∧(PE.ev ρ i).i<(PE.ev ρ x).s.size))):=_root_.id rfl
@[simp] theorem aBV (a:ByteArray):(str a).s=a:=_root_.id rfl
theorem afz (l:List Int)(x:Int)(hl:l.length≤4294967296):ak T 124 [ints l,.int x] (.int (uQ l x)):=by
 refine .of_tree rfl (lA 20 (by kernel_rfl)) auA ?_;simp[UK];refine .scan l.length (fun k=>l.getD k 0≠x) (fun k=>[.int 0,.int k]) (fun _=>[]) ?_ (fun k hk hj ho=>?_) (fun k hk hj ho=>?_) (fun hj=>?_)
 ·simp
 ·have hw:=bp hk hl;simp[hk] at ho;have eA:¬x=l[k]:=fun e=>ho e.symm;simp[Sn,F3,hk,hw,ints,ho,eA]
 ·obtain⟨hm,he⟩:=idx_eq hk hj ho;simp[hk] at ho;simp[Sn,F3,hk,ints,ho,uQ,hm,he]
 ·have:=Zz hj;simp[Sn,F3,uQ,this,ints]
theorem vK (l:List Int)(x:Int)(hl:l.length≤4294967296):ak T 81 [ints l,.int x] (.bool (hasB l x)):=by
 refine .of_tree rfl (lA 19 (by kernel_rfl)) auu ?_;simp[UF];refine⟨_,afz l x hl,?_⟩;have:=Zy l x;simp at this ⊢;exact this
theorem afA (l:List ByteArray)(x:ByteArray)(hl:l.length≤4294967296):ak T 215 [strs l,str x] (.int (uQ l x)):=by
 refine .of_tree rfl (lA 55 (by kernel_rfl)) auB ?_;simp[UL];refine .scan l.length (fun k=>l.getD k default≠x) (fun k=>[.int 0,.int k]) (fun _=>[]) ?_ (fun k hk hj ho=>?_) (fun k hk hj ho=>?_) (fun hj=>?_)
 ·simp
 ·have hw:=bp hk hl;simp[hk] at ho;have eA:¬x=l[k]:=fun e=>ho e.symm;simp[Sp,F4,hk,hw,strs,ho,eA]
 ·obtain⟨hm,he⟩:=idx_eq hk hj ho;simp[hk] at ho;simp[Sp,F4,hk,strs,ho,uQ,hm,he]
 ·have:=Zz hj;simp[Sp,F4,uQ,this,strs]
theorem afu (l:List ByteArray)(x:ByteArray)(hl:l.length≤4294967296):ak T 200 [strs l,str x] (.bool (hasB l x)):=by
 refine .of_tree rfl (lA 54 (by kernel_rfl)) auv ?_;simp[UG];refine⟨_,afA l x hl,?_⟩;have:=Zy l x;simp at this ⊢;exact this
def oX (l:List Int)(a b:Int)(k:Nat):Bool:=wi (l.getD k 0) a b&&(k==0||decide (l.getD (k-1) 0<l.getD k 0))
def rising (l:List Int)(a b:Int):Bool:=eO l.length (oX l a b)
theorem F9 (l:List Int)(a b:Int)(hl:l.length≤4294967296):ak T 164 [ints l,.int a,.int b] (.bool (rising l a b)):=by
 refine .of_tree rfl (lA 59 (by kernel_rfl)) aui ?_;simp[Uu];refine gA l.length (oX l a b) (fun k=>[.bool false,.int k]) (fun _=>[]) ?_ (fun k hk ho=>?_) (fun k hk ho hb=>?_) (fun hj=>?_)
 ·simp
 ·have hw:=bp hk hl;simp[oX,wi,hk] at ho;obtain⟨⟨h1,h2⟩,h3⟩:=ho;have cw:¬l[k]<a:=by omega
  have gU:¬b<l[k]:=by omega
  by_cases iI:0<k
  ·have bu:k-1<l.length:=by omega
   have dH:IntKind.i64.wrap ((k:Int)-1)=((k-1:Nat):Int):=by rw[vF (by omega)];omega
   have eQ:¬l[k]≤l[k-1]:=by
        rcases h3 with h3|h3
        ·omega
        ·simp[bu] at h3;omega
   simp[BA,vi,hk,hw,dH,ints,cw,gU,eQ,iI,bu]
  ·simp[BA,vi,hk,hw,ints,cw,gU,iI]
 ·have hf:rising l a b=false:=hb;simp[oX,wi,hk] at ho;by_cases h1:l[k]<a
  ·simp[BA,vi,hk,ints,h1,hf]
  by_cases h2:b<l[k]
  ·simp[BA,vi,hk,ints,h1,h2,hf]
  have h3:=ho (by omega) (by omega);have iI:0<k:=by omega
  have bu:k-1<l.length:=by omega
  have dH:IntKind.i64.wrap ((k:Int)-1)=((k-1:Nat):Int):=by rw[vF (by omega)];omega
  have eQ:=h3.2;simp[bu] at eQ;simp[BA,vi,hk,dH,ints,h1,h2,eQ,iI,bu,hf]
 ·have hf:rising l a b=true:=hj;simp[BA,vi,hf]
def EE (c:Int):Bool:=wi c 97 122||wi c 65 90
def xy (i:Nat)(c:Int):Bool:=EE c||(i !=0&&(decide (c=95)||wi c 48 57))
def Cw (s:ByteArray)(k:Nat):Int:=((s.data.toList.getD k 0).toNat:Nat)
def jj (s:ByteArray):Bool:=decide (1≤s.size)&&decide (s.size≤20)&&eO s.size (fun k=>xy k (Cw s k))
theorem G7 {s:ByteArray}{k:Nat}(h:k<s.data.size):(s.data[k].toNat:Int)=Cw s k:=by
 unfold Cw;rw[aJ,bA (by simpa using h)];rfl
theorem aed {s:ByteArray}:s=⟨#[]⟩↔s.size=0:=by
 constructor
 ·rintro rfl;rfl
 ·intro h;cases s with|mk d=>congr;exact LR h
theorem arE (s:ByteArray):ak T 199 [str s] (.bool (jj s)):=by
 refine .of_tree rfl (lA 53 (by kernel_rfl)) aud ?_;simp[Up];by_cases h0:s=⟨#[]⟩
 ·have hn:jj s=false:=by simp[jj,aed.1 h0]
  rw[hn];simp[h0]
 by_cases h1:(20:Int)<s.size
 ·have cw:¬s.size≤20:=by omega
  simp[h0,h1,jj,cw]
 have hz:1≤s.size:=by
  have:s.size≠0:=fun e=>h0 (aed.2 e);omega
 have cw:s.size≤20:=by omega
 simp[h0,h1];refine⟨by omega,gA s.size (fun k=>xy k (Cw s k)) (fun k=>[.bool false,.int k]) (fun _=>[]) ?_ (fun k hk ho=>?_) (fun k hk ho hb=>?_) (fun hj=>?_)⟩
 ·simp
 ·have hw:=bp hk (by omega);have bm:k<s.data.size:=hk;have hg:=G7 bm;simp[xy,EE,wi] at ho;simp[R6,FM,hk,bm,hw,hg];omega
 ·have bm:k<s.data.size:=hk;have hg:=G7 bm;have hn:jj s=false:=by simp[jj,hb]
  simp[xy,EE,wi] at ho;simp[R6,FM,hk,bm,hg,hn];omega
 ·have hn:jj s=true:=by simp[jj,hj,hz,cw]
  have hd:s.data.size=s.size:=rfl;simp[R6,FM,hn,hd]
theorem ac1 (c:Int):ak T 172 [.v (.int .u8 c)] (.bool (EE c)):=by
 refine .of_tree rfl (lA 93 (by kernel_rfl)) atE ?_;simp[TS,EE,wi];by_cases h:97≤c<;>by_cases h2:c≤122<;>by_cases h3:65≤c<;>by_cases h4:c≤90<;>simp[h,h2,h3,h4]
theorem aqV (s:ByteArray):ak T 147 [str s] (.bool (jj s)):=by
 refine .of_tree rfl (lA 92 (by kernel_rfl)) atG ?_;simp[TU];by_cases h0:(s.size:Int)<1
 ·have hn:jj s=false:=by simp[jj];omega
  simp[h0,hn]
 by_cases h1:(20:Int)<s.size
 ·have hn:jj s=false:=by simp[jj];omega
  simp[h0,h1,hn]
 rw[if_neg (by omega)];refine gA s.size (fun k=>xy k (Cw s k)) (fun k=>[.bool false,.int k]) (fun _=>[]) ?_ (fun k hk ho=>?_) (fun k hk ho hb=>?_) (fun hj=>?_)
 ·simp
 ·have hw:=bp hk (by omega);have bm:k<s.data.size:=hk;have hg:=G7 bm;simp[xy,wi] at ho;simp[RM,Fs,hk,bm,hw,hg];refine⟨_,ac1 _,?_⟩;simp[hw];intro g1 g2;exfalso;rcases ho with h|h
  ·rw[h] at g1;cases g1
  ·omega
 ·have bm:k<s.data.size:=hk;have hg:=G7 bm;have hn:jj s=false:=by simp[jj,hb]
  simp[xy,wi] at ho;simp[RM,Fs,hk,bm,hg,hn];refine⟨_,ac1 _,?_⟩;simp[ho.1];omega
 ·have hn:jj s=true:=by simp[jj,hj];omega
  simp[RM,Fs,hn]
end Rm
namespace Rm
open Go Go.Proofs Cx
theorem aqS (l:List ByteArray)(n:Nat)(x:ByteArray)(hn:n≤l.length)(hl:l.length≤4294967296):ak T 148 [strs l,.int n,str x] (.bool (hasB (l.take n) x)):=by
 refine .of_tree rfl (lA 94 (by kernel_rfl)) atA ?_;simp[TP];refine .scan n (fun k=>l.getD k default≠x) (fun k=>[.bool false,.int k]) (fun _=>[]) ?_ (fun k hk hj ho=>?_) (fun k hk hj ho=>?_) (fun hj=>?_)
 ·simp
 ·have bm:k<l.length:=by omega
  have hw:=bp bm hl;simp[bm] at ho;simp[RL,Fp,hk,bm,hw,strs,ho]
 ·have bm:k<l.length:=by omega
  simp[bm] at ho;have hm:hasB (l.take n) x=true:=NZ.2 (by rw[←ho,afI];exact⟨k,by omega,rfl⟩);simp[RL,Fp,hk,bm,strs,ho,hm]
 ·have hm:hasB (l.take n) x=false:=Yb.2 (fun h=>by
   rw[afI] at h;obtain⟨k,hk,e⟩:=h;have:=hj k (by omega);simp[show k<l.length by omega] at this;exact this e)
  simp[RL,Fp,hm]
def gX (l:List ByteArray)(i:Nat):Int:=if jj (l.getD i default)=false then 2 else if hasB (l.take i) (l.getD i default) then 5 else 0
theorem P3 (l:List ByteArray)(i n:Nat)(h:i<n):gX (l.take n) i=gX l i:=by
 unfold gX;rw[aJ,List.getElem?_take_of_lt h,List.take_take,pz (by omega),←aJ]
theorem E6 (l:List ByteArray)(i:Nat)(hi:i<l.length)(hl:l.length≤4294967296):ak T 108 [strs l,.int i] (.int (gX l i)):=by
 refine .of_tree rfl (lA 91 (by kernel_rfl)) atN ?_;simp[T3,hi];refine⟨_,by simpa [strs,hi] using aqV l[i],?_⟩;unfold gX;rw[aJ,bA hi,j9];cases h1:jj l[i]<;>simp[h1];refine⟨_,by simpa [strs,hi] using aqS l i l[i] (by omega) hl,?_⟩;cases h2:hasB (l.take i) l[i]<;>simp[h2]
theorem adF (l:List ByteArray)(i:Nat)(hi:i<l.length)(hl:l.length≤4294967296):ak T 163 [strs l,.int i] (.int (gX l i)):=by
 refine .of_tree rfl (lA 52 (by kernel_rfl)) aue ?_;simp[Uq,hi];refine⟨_,by simpa [strs,hi] using arE l[i],?_⟩;unfold gX;rw[aJ,bA hi,j9];cases h1:jj l[i]<;>simp[h1];refine⟨by omega,_,by simpa [strs,hi] using afu (l.take i) l[i] (by rw[dW];omega),?_⟩;cases h2:hasB (l.take i) l[i]<;>simp[h2]
def ki (l:List ByteArray)(g:Nat→Bool)(i:Nat):Int:=if gX l i≠0 then gX l i else if g i then 0 else 1
def fc (l:List ByteArray)(EK:Int)(g:Nat→Bool):Int:=if EK<l.length then 6 else fQ l.length (ki l g)
theorem K6 (l:List ByteArray)(EK:Int)(f:Nat)(caps:List D)(g:Nat→Bool)(hg:∀i:Nat,i<l.length→ak T f (.int i::caps) (.bool (g i)))(hl:l.length≤4294967296):
 ak T 129 [strs l,.int EK,.clo f caps] (.int (fc l EK g)):=by
 refine .of_tree rfl (lA 51 (by kernel_rfl)) aub ?_;simp[Un,fc];by_cases h0:EK<l.length
 ·simp[h0];intro h;omega
 simp[h0];refine oZ l.length (ki l g) (fun k=>[.int 0,.int k]) (fun _=>[]) ?_ (fun k hk ho=>?_) (fun k hk ho hb=>?_) (fun hj=>?_)
 ·simp
 ·have hw:=bp hk hl;have h1:gX l k=0:=by
   refine vJ fun h=>?_;unfold ki at ho;rw[if_pos h] at ho;exact h ho
  have h2:g k=true:=by
   unfold ki at ho;rw[if_neg (by simpa using h1)] at ho;cases h:g k with
   |true=>rfl
   |false=>rw[h] at ho;simp at ho
  simp[R5,FL,hk,hw];refine⟨_,adF l k hk hl,?_⟩;simp[h1];refine⟨_,_,⟨rfl,rfl⟩,_,hg k hk,?_⟩;simp[h2,hw]
 ·simp[R5,FL,hk,hb];refine⟨_,adF l k hk hl,?_⟩;unfold ki at ho ⊢;by_cases h1:gX l k=0
  ·simp[h1] at ho ⊢;refine⟨_,_,⟨rfl,rfl⟩,_,hg k hk,?_⟩;simp[ho]
  ·simp[h1]
 ·simp[R5,FL,hj]
theorem Rn (l:List Int)(a b:Int)(hl:l.length≤4294967296):ak T 149 [ints l,.int a,.int b] (.bool (rising l a b)):=by
 refine .of_tree rfl (lA 97 (by kernel_rfl)) atJ ?_;simp[TX];refine gA l.length (oX l a b) (fun k=>[.bool false,.int k]) (fun _=>[]) ?_ (fun k hk ho=>?_) (fun k hk ho hb=>?_) (fun hj=>?_)
 ·simp
 ·have hw:=bp hk hl;simp[oX,hk] at ho;simp[RQ,Fw,hk,hw,ints];refine⟨_,cV _ _ _,?_⟩;by_cases iI:0<k
  ·have bu:k-1<l.length:=by omega
   have dH:IntKind.i64.wrap ((k:Int)-1)=((k-1:Nat):Int):=by rw[vF (by omega)];omega
   have eQ:¬l[k]≤l[k-1]:=by
        rcases ho.2 with h3|h3
        ·omega
        ·simp[bu] at h3;omega
   simp[ho.1,hk,hw,dH,eQ,iI,bu]
  ·simp[ho.1,hk,hw,iI];omega
 ·have hf:rising l a b=false:=hb;simp[oX,hk] at ho;simp[RQ,Fw,hk,ints,hf];refine⟨_,cV _ _ _,?_⟩;cases h1:wi l[k] a b with
  |false=>simp
  |true=>
   have h3:=ho h1;have iI:0<k:=by omega
   have bu:k-1<l.length:=by omega
   have dH:IntKind.i64.wrap ((k:Int)-1)=((k-1:Nat):Int):=by rw[vF (by omega)];omega
   have eQ:=h3.2;simp[bu] at eQ;simp[hk,dH,eQ,iI,bu]
 ·have hf:rising l a b=true:=hj;simp[RQ,Fw,hf]
theorem SU (n:Int):n.tdiv 100=if 0≤n then n/100 else-((-n)/100):=by
 split
 ·rename_i h;exact VJ h
 ·rename_i h;have e:n.tdiv 100=-((-n).tdiv 100):=by rw[Int.neg_tdiv,Int.neg_neg]
  rw[e,VJ (by omega)]
theorem aeq (n:Int):n.tmod 100=n-100*n.tdiv 100:=Int.tmod_def n 100
theorem afh {n:Int}(h:aW n):IntKind.i64.wrap (n.tdiv 100)=n.tdiv 100:=bU (by rw[SU];unfold aW at h;split<;>omega)
def nW (r:Realm)(c:City):Bool:=eO c.feasts.length (fun k=>wi ((c.feasts.getD k 0).tmod 100) 1 31)&&(decide (c.feasts.length≤60)&&decide (c.shut.length≤200)&&aC c.order r.orders.length&&aC c.currency r.currencies.length)&&
 (rising c.rest 0 6&&rising c.feasts 101 1231&&rising c.shut 0 100000)
theorem arC (r:Realm)(c:City)(h1:c.rest.length≤4294967296)(h2:c.feasts.length≤4294967296)(h3:c.shut.length≤4294967296):ak T 132 [bk r,gH c] (.bool (nW r c)):=by
 refine .of_tree rfl (lA 58 (by kernel_rfl)) aua ?_;simp[Um];refine gA c.feasts.length (fun k=>wi ((c.feasts.getD k 0).tmod 100) 1 31) (fun k=>[.bool false,.int k]) (fun _=>[]) ?_ (fun k hk ho=>?_) (fun k hk ho hb=>?_) (fun hj=>?_)
 ·simp
 ·have hw:=bp hk h2;simp[wi,hk] at ho;have g1:¬(c.feasts[k].tmod 100<1):=by omega
  have g2:¬(31<c.feasts[k].tmod 100):=by omega
  simp[R4,FK,hk,hw,ints,g1,g2]
 ·have hf:nW r c=false:=by simp only[nW,hb,sk]
  simp[wi,hk] at ho;simp[R4,FK,hk,ints,hf];by_cases g1:c.feasts[k].tmod 100<1
  ·simp[g1]
  ·have g2:=ho (by omega);simp[g1,g2]
 ·simp[R4,FK];by_cases g1:(c.feasts.length:Int)≤60
  case neg=>
   have hf:nW r c=false:=by
        have fw:decide (c.feasts.length≤60)=false:=decide_eq_false (by omega);simp only[nW,fw,sk,ym]
   have fw:(60:Int)<c.feasts.length:=by omega
   simp[g1,fw,hf]
  by_cases g2:(c.shut.length:Int)≤200
  case neg=>
   have hf:nW r c=false:=by
        have fw:decide (c.shut.length≤200)=false:=decide_eq_false (by omega);simp only[nW,fw,sk,ym]
   have od:(200:Int)<c.shut.length:=by omega
   simp[g1,g2,od,hf]
  have fw:¬(60:Int)<c.feasts.length:=by omega
  have od:¬(200:Int)<c.shut.length:=by omega
  have hf:nW r c=(aC c.order r.orders.length&&aC c.currency r.currencies.length&&(rising c.rest 0 6&&rising c.feasts 101 1231&&rising c.shut 0 100000)):=by
   have e1:decide (c.feasts.length≤60)=true:=decide_eq_true (by omega);have e2:decide (c.shut.length≤200)=true:=decide_eq_true (by omega);simp only[nW,hj,e1,e2,yn]
  rw[hf];simp[g1,g2,fw,od];refine⟨_,gd _ _,?_⟩;simp;cases e1:aC c.order r.orders.length<;>simp;refine⟨_,gd _ _,?_⟩;simp;cases e2:aC c.currency r.currencies.length<;>simp;refine⟨_,F9 _ _ _ h1,?_⟩;simp;cases e3:rising c.rest 0 6<;>simp;refine⟨_,F9 _ _ _ h2,?_⟩;simp;cases e4:rising c.feasts 101 1231<;>simp;exact F9 _ _ _ h3
def pI (r:Realm)(c:City):Bool:=(wi c.order 0 (r.orders.length-1)&&wi c.currency 0 (r.currencies.length-1)&&decide (c.feasts.length≤60)&&decide (c.shut.length≤200))&&
 eO c.feasts.length (fun k=>wi ((c.feasts.getD k 0).tdiv 100) 1 12&&wi ((c.feasts.getD k 0).tmod 100) 1 31)&&(rising c.rest 0 6&&rising c.feasts 0 2000&&rising c.shut 0 100000)
theorem se (n:Nat)(h:n≤4294967296):IntKind.i64.wrap ((n:Int)-1)=(n:Int)-1:=bU (by omega)
theorem aqW (r:Realm)(c:City)(h1:c.rest.length≤4294967296)(h2:c.feasts.length≤4294967296)(h3:c.shut.length≤4294967296)(h4:r.orders.length≤4294967296)(h5:r.currencies.length≤4294967296)(hi:∀y,y∈c.feasts→aW y):
 ak T 109 [bk r,gH c] (.bool (pI r c)):=by
 refine .of_tree rfl (lA 95 (by kernel_rfl)) atH ?_;simp[TV,se _ h4,se _ h5];refine⟨_,cV _ _ _,?_⟩;cases e1:wi c.order 0 (r.orders.length-1)
 case false=>simp[pI,e1]
 simp;refine⟨_,cV _ _ _,?_⟩;cases e2:wi c.currency 0 (r.currencies.length-1)
 case false=>simp[pI,e1,e2]
 by_cases g1:(c.feasts.length:Int)≤60
 case neg=>
  have hf:pI r c=false:=by
   have fw:decide (c.feasts.length≤60)=false:=decide_eq_false (by omega);simp only[pI,fw,sk,ym]
  have fw:(60:Int)<c.feasts.length:=by omega
  simp[fw,hf]
 by_cases g2:(c.shut.length:Int)≤200
 case neg=>
  have hf:pI r c=false:=by
   have fw:decide (c.shut.length≤200)=false:=decide_eq_false (by omega);simp only[pI,fw,sk,ym]
  have od:(200:Int)<c.shut.length:=by omega
  simp[od,hf]
 have fw:¬(60:Int)<c.feasts.length:=by omega
 have od:¬(200:Int)<c.shut.length:=by omega
 have hf:pI r c=(eO c.feasts.length (fun k=>wi ((c.feasts.getD k 0).tdiv 100) 1 12&&wi ((c.feasts.getD k 0).tmod 100) 1 31)&&(rising c.rest 0 6&&rising c.feasts 0 2000&&rising c.shut 0 100000)):=by
  have e3:decide (c.feasts.length≤60)=true:=decide_eq_true (by omega);have e4:decide (c.shut.length≤200)=true:=decide_eq_true (by omega);simp only[pI,e1,e2,e3,e4,yn]
 rw[hf];simp[fw,od];refine gA c.feasts.length (fun k=>wi ((c.feasts.getD k 0).tdiv 100) 1 12&&wi ((c.feasts.getD k 0).tmod 100) 1 31) (fun k=>[.bool false,.int k]) (fun _=>[]) ?_ (fun k hk ho=>?_) (fun k hk ho hb=>?_) (fun hj=>?_)
 ·simp
 ·have hw:=bp hk h2;have hI:=hi _ (cS hk);have hq:IntKind.i64.wrap (c.feasts[k].tdiv 100)=c.feasts[k].tdiv 100:=afh hI;simp[hk] at ho;simp[RN,Ft,hk,ints,hq];refine⟨_,cV _ _ _,?_⟩;simp[ho.1,hk];refine⟨_,cV _ _ _,?_⟩;simp[ho.2,hk,hw]
 ·have hI:=hi _ (cS hk);have hq:IntKind.i64.wrap (c.feasts[k].tdiv 100)=c.feasts[k].tdiv 100:=afh hI;simp[hk] at ho;simp only[aJ] at hb;rw[hb];simp[RN,Ft,hk,ints,hq];refine⟨_,cV _ _ _,?_⟩;cases e3:wi (c.feasts[k].tdiv 100) 1 12 with
  |false=>simp
  |true=>
   have:=ho e3;simp[hk];refine⟨_,cV _ _ _,?_⟩;simp[this]
 ·simp only[aJ] at hj;rw[hj];simp[RN,Ft];refine⟨_,Rn _ _ _ h1,?_⟩;simp;cases e3:rising c.rest 0 6<;>simp;refine⟨_,Rn _ _ _ h2,?_⟩;simp;cases e4:rising c.feasts 0 2000<;>simp;exact Rn _ _ _ h3
theorem ahp (r:Realm)(c:City):pI r c=nW r c:=by
 rw[tT];have bt:∀(i:Int) (n:Nat),(wi i 0 (n-1)=true)↔(aC i n=true):=by intro i n;simp[wi,aC];omega
 simp only[pI,nW,ao,decide_eq_true_eq,bt,rising,yC,oX];constructor
 ·rintro⟨⟨⟨⟨⟨a1,a2⟩,a3⟩,a4⟩,a5⟩,⟨a6,a7⟩,a8⟩;refine⟨⟨fun k hk=>(a5 k hk).2,⟨⟨⟨a3,a4⟩,a1⟩,a2⟩⟩,⟨a6,fun k hk=>?_⟩,a8⟩;have h1:=a5 k hk;have h2:=a7 k hk;simp[wi,aeq,SU] at h1 h2 ⊢;split at h1<;>omega
 ·rintro⟨⟨a5,⟨⟨⟨a3,a4⟩,a1⟩,a2⟩⟩,⟨a6,a7⟩,a8⟩;refine⟨⟨⟨⟨⟨a1,a2⟩,a3⟩,a4⟩,fun k hk=>?_⟩,⟨a6,fun k hk=>?_⟩,a8⟩
  ·have h1:=a5 k hk;have h2:=a7 k hk;simp[wi,aeq,SU] at h1 h2 ⊢;split at h1<;>(try split)<;>omega
  ·have h2:=a7 k hk;simp[wi] at h2 ⊢;omega
end Rm
namespace Rm
open Go Go.Proofs Cx
theorem BP {α β:Type}(f:α→β){l:List α}{k:Nat}(h:k<l.length):(l.take (k+1)).map f=(l.take k).map f++[f l[k]]:=by
 rw[mV h,px];rfl
theorem nk (i:Int)(n:Nat):aC i n=wi i 0 ((n:Int)-1):=by
 rw[tT];simp[wi,aC];omega
def yF (o:Order):List Int:=o.choices.map (·.ask)
def Cd (o:Order):List Int:=o.rules.map (·.ask)
def qq (o:Order):Bool:=eO o.choices.length (fun k=>aC (o.choices.getD k default).by_ 5)&&(rising (yF o) 0 21&&rising (Cd o) 0 21)
theorem arG (o:Order)(h1:o.choices.length≤100000)(h2:o.rules.length≤100000):ak T 135 [iZ o] (.bool (qq o)):=by
 refine .of_tree rfl (lA 62 (by kernel_rfl)) aug ?_;simp[Us];refine gA o.choices.length (fun k=>aC (o.choices.getD k default).by_ 5) (fun k=>[.bool false,.none,.int k]) (fun k=>[ints ((o.choices.take k).map (·.ask))]) ?_ (fun k hk ho=>?_) (fun k hk ho hb=>?_) (fun hj=>?_)
 ·simp[ints]
 ·have hw:=bp hk (by omega);have hl:(o.choices.take k).length=k:=by rw[dW];omega
  simp[hk] at ho;rw[BP _ hk];simp[R7,FN,hk,hw,ints,hl];refine⟨by omega,_,gd _ _,?_⟩;simp[ho,hw]
 ·have hf:qq o=false:=by simp only[qq,hb,sk]
  have hl:(o.choices.take k).length=k:=by rw[dW];omega
  simp[hk] at ho;simp[R7,FN,hk,ints,hl,hf];refine⟨by omega,_,gd _ _,?_⟩;simp[ho]
 ·have hf:qq o=(rising (yF o) 0 21&&rising (Cd o) 0 21):=by simp only[qq,hj,yn]
  rw[hf];simp[R7,FN];refine aP.forRounds o.rules.length (fun k=>[.none,.int k]) (fun k=>[ints ((o.rules.take k).map (·.ask))]) ?_ (fun k hk=>?_) ?_
  ·simp[ints]
  ·have hw:=bp hk (by omega);have hl:(o.rules.take k).length=k:=by rw[dW];omega
   rw[BP _ hk];simp[adw,KW,hk,hw,ints,hl];omega
  ·simp[adw,KW];refine⟨_,F9 (yF o) _ _ (by simp[yF];omega),?_⟩;simp;cases e1:rising (yF o) 0 21<;>simp;exact F9 (Cd o) _ _ (by simp[Cd];omega)
def xC (o:Order)(k:Nat):Bool:=wi (o.choices.getD k default).ask 0 21&&wi (o.choices.getD k default).by_ 0 4&&(k==0||decide ((o.choices.getD (k-1) default).ask<(o.choices.getD k default).ask))
def A8 (o:Order)(k:Nat):Bool:=wi (o.rules.getD k default).ask 0 21&&(k==0||decide ((o.rules.getD (k-1) default).ask<(o.rules.getD k default).ask))
theorem aql (o:Order):(eO o.choices.length (xC o)&&eO o.rules.length (A8 o))=qq o:=by
 rw[tT];simp only[qq,ao,rising,yC,yF,Cd,eN];have g1:∀k,k<o.choices.length→(oX (o.choices.map (·.ask)) 0 21 k=true↔wi (o.choices.getD k default).ask 0 21=true∧(k=0∨(o.choices.getD (k-1) default).ask<(o.choices.getD k default).ask)):=by
  intro k hk;have bu:k-1<o.choices.length:=by omega
  simp[oX,hk,bu]
 have g2:∀k,k<o.rules.length→(oX (o.rules.map (·.ask)) 0 21 k=true↔wi (o.rules.getD k default).ask 0 21=true∧(k=0∨(o.rules.getD (k-1) default).ask<(o.rules.getD k default).ask)):=by
  intro k hk;have bu:k-1<o.rules.length:=by omega
  simp[oX,hk,bu]
 constructor
 ·rintro⟨a,b⟩;refine⟨fun k hk=>?_,fun k hk=>(g1 k hk).2 ?_,fun k hk=>(g2 k hk).2 ?_⟩
  ·have:=a k hk;simp[xC,wi,aC] at this ⊢;omega
  ·have:=a k hk;simp[xC] at this ⊢;exact⟨this.1.1,this.2⟩
  ·have:=b k hk;simp[A8] at this ⊢;exact this
 ·rintro⟨c,a,b⟩;refine⟨fun k hk=>?_,fun k hk=>?_⟩
  ·have h1:=(g1 k hk).1 (a k hk);have h2:=c k hk;simp[xC,wi,aC] at h1 h2 ⊢;omega
  ·have h1:=(g2 k hk).1 (b k hk);simp[A8] at h1 ⊢;exact h1
theorem aqX (o:Order)(h1:o.choices.length≤100000)(h2:o.rules.length≤100000):ak T 110 [iZ o] (.bool (qq o)):=by
 rw[←aql];refine .of_tree rfl (lA 100 (by kernel_rfl)) atI ?_;simp[TW];refine gA o.choices.length (xC o) (fun k=>[.bool false,.int k]) (fun _=>[]) ?_ (fun k hk ho=>?_) (fun k hk ho hb=>?_) (fun hj=>?_)
 ·simp
 ·have hw:=bp hk (by omega);simp[xC,hk] at ho;simp[RO,Fu,hk];refine⟨_,cV _ _ _,?_⟩;simp[ho.1.1,hk];refine⟨_,cV _ _ _,?_⟩;by_cases iI:0<k
  ·have bu:k-1<o.choices.length:=by omega
   have dH:IntKind.i64.wrap ((k:Int)-1)=((k-1:Nat):Int):=by rw[vF (by omega)];omega
   have h3:¬o.choices[k].ask≤o.choices[k-1].ask:=by
        rcases ho.2 with h3|h3
        ·omega
        ·simp[bu] at h3;omega
   simp[ho.1.2,hk,hw,dH,h3,iI,bu]
  ·simp[ho.1.2,hk,hw,iI];omega
 ·rw[hb];simp[xC,hk] at ho;simp[RO,Fu,hk];refine⟨_,cV _ _ _,?_⟩;cases e1:wi o.choices[k].ask 0 21 with
  |false=>simp
  |true=>
   simp[hk];refine⟨_,cV _ _ _,?_⟩;cases e2:wi o.choices[k].by_ 0 4 with
   |false=>simp
   |true=>
    have h3:=ho e1 e2;have iI:0<k:=by omega
    have bu:k-1<o.choices.length:=by omega
    have dH:IntKind.i64.wrap ((k:Int)-1)=((k-1:Nat):Int):=by rw[vF (by omega)];omega
    have eQ:=h3.2;simp[bu] at eQ;simp[hk,dH,eQ,iI,bu]
 ·rw[hj];simp[RO,Fu];refine gA o.rules.length (A8 o) (fun k=>[.bool false,.int k]) (fun _=>[]) ?_ (fun k hk ho=>?_) (fun k hk ho hb=>?_) (fun hj=>?_)
  ·simp
  ·have hw:=bp hk (by omega);simp[A8,hk] at ho;simp[RP,Fv,hk];refine⟨_,cV _ _ _,?_⟩;by_cases iI:0<k
   ·have bu:k-1<o.rules.length:=by omega
    have dH:IntKind.i64.wrap ((k:Int)-1)=((k-1:Nat):Int):=by rw[vF (by omega)];omega
    have h3:¬o.rules[k].ask≤o.rules[k-1].ask:=by
       rcases ho.2 with h3|h3
       ·omega
       ·simp[bu] at h3;omega
    simp[ho.1,hk,hw,dH,h3,iI,bu]
   ·simp[ho.1,hk,hw,iI];omega
  ·rw[hb];simp[A8,hk] at ho;simp[RP,Fv,hk];refine⟨_,cV _ _ _,?_⟩;cases e1:wi o.rules[k].ask 0 21 with
   |false=>simp
   |true=>
    have h3:=ho e1;have iI:0<k:=by omega
    have bu:k-1<o.rules.length:=by omega
    have dH:IntKind.i64.wrap ((k:Int)-1)=((k-1:Nat):Int):=by rw[vF (by omega)];omega
    have eQ:=h3.2;simp[bu] at eQ;simp[hk,dH,eQ,iI,bu]
  ·rw[hj];simp[RP,Fv]
def fD (r:Realm):List ByteArray:=r.cities.map (·.name)
def fE (r:Realm):List ByteArray:=r.firms.map (·.name)
def eX (r:Realm):List ByteArray:=r.orders.map (·.name)
theorem arF (r:Realm)(h1:r.cities.length≤100000)(h2:r.firms.length≤100000)(h3:r.orders.length≤100000):ak T 128 [bk r] (.tup [strs (fD r),strs (fE r),strs (eX r)]):=by
 refine .of_tree rfl (lA 50 (by kernel_rfl)) auf ?_;simp[Ur];refine aP.forRounds r.cities.length (fun k=>[.none,.int k]) (fun k=>[strs ((r.cities.take k).map (·.name))]) ?_ (fun k hk=>?_) ?_
 ·simp[strs]
 ·have hw:=bp hk (by omega);have hl:(r.cities.take k).length=k:=by rw[dW];omega
  rw[BP _ hk];simp[adt,KT,hk,hw,strs,hl];omega
 ·simp[adt,KT];refine aP.forRounds r.firms.length (fun k=>[.none,.int k]) (fun k=>[strs ((r.firms.take k).map (·.name))]) ?_ (fun k hk=>?_) ?_
  ·simp[strs]
  ·have hw:=bp hk (by omega);have hl:(r.firms.take k).length=k:=by rw[dW];omega
   rw[BP _ hk];simp[adu,KU,hk,hw,strs,hl];omega
  ·simp[adu,KU];refine aP.forRounds r.orders.length (fun k=>[.none,.int k]) (fun k=>[strs ((r.orders.take k).map (·.name))]) ?_ (fun k hk=>?_) ?_
   ·simp[strs]
   ·have hw:=bp hk (by omega);have hl:(r.orders.take k).length=k:=by rw[dW];omega
    rw[BP _ hk];simp[adv,KV,hk,hw,strs,hl];omega
   ·simp[adv,KV,fD,fE,eX]
end Rm
namespace Rm
open Go Go.Proofs Cx
structure Small (r:Realm):Prop where
 cur:r.currencies.length≤1000
 cities:r.cities.length≤1000
 groups:r.groups.length≤1000
 firms:r.firms.length≤1000
 orders:r.orders.length≤1000
 us:r.usances.length≤1000
 rates:r.rates.length≤1000
 halts:r.halts.length≤1000
 city:∀c,c∈r.cities→c.rest.length≤1000∧c.feasts.length≤1000∧c.shut.length≤1000∧∀y,y∈c.feasts→aW y
 order:∀o,o∈r.orders→o.choices.length≤1000∧o.rules.length≤1000
 rate:∀x,x∈r.rates→aW x.num∧aW x.den
def l6 (r:Realm)(k j:Nat):Bool:=(r.usances.getD j default).fr !=(r.usances.getD k default).fr||(r.usances.getD j default).to !=(r.usances.getD k default).to
def yg (r:Realm)(k:Nat):Int:=
 if(aC (r.usances.getD k default).fr r.cities.length&&aC (r.usances.getD k default).to r.cities.length&&wi (r.usances.getD k default).days 1 20000)=false then 1 else if eO k (l6 r k) then 0 else 5
def vC (r:Realm):Int:=if 100<r.usances.length then 6 else fQ r.usances.length (yg r)
theorem arJ (r:Realm)(h:Small r):ak T 136 [bk r] (.int (vC r)):=by
 refine .of_tree rfl (lA 63 (by kernel_rfl)) auj ?_;have hu:=h.us;simp[Uv,vC];by_cases h0:100<r.usances.length
 ·have gp:(100:Int)<r.usances.length:=by omega
  have wA:¬r.usances.length≤100:=by omega
  simp[h0,gp,wA]
 have gp:¬(100:Int)<r.usances.length:=by omega
 simp[h0,gp];refine oZ r.usances.length (yg r) (fun k=>[.int 0,.int k]) (fun _=>[]) ?_ (fun k hk ho=>?_) (fun k hk ho hb=>?_) (fun hj=>?_)
 ·simp
 ·have hw:=bp hk (by omega);have ha:aC r.usances[k].fr r.cities.length=true∧aC r.usances[k].to r.cities.length=true∧wi r.usances[k].days 1 20000=true∧eO k (l6 r k)=true:=by
   unfold yg at ho;simp only[aJ,bA hk,j9] at ho;cases e1:aC r.usances[k].fr r.cities.length<;>cases e2:aC r.usances[k].to r.cities.length<;>cases e3:wi r.usances[k].days 1 20000<;>cases e4:eO k (l6 r k)<;>simp[e1,e2,e3,e4] at ho ⊢
  obtain⟨a1,a2,a3,a4⟩:=ha;simp[wi] at a3;have a5:¬r.usances[k].days<1:=by omega
  have a6:¬20000<r.usances[k].days:=by omega
  simp[Sa,FQ,hk];refine⟨_,gd _ _,?_⟩;simp[a1];refine⟨_,gd _ _,?_⟩;simp[a2,a5,a6];refine⟨by omega,gA k (l6 r k) (fun j=>[.int 0,.int j]) (fun _=>[]) ?_ (fun j hj eR=>?_) (fun j hj eR cf=>?_) (fun rj=>?_)⟩
  ·simp
  ·have xb:=bp hj (by omega);have bE:j<r.usances.length:=by omega
   have hm:j<min k r.usances.length:=by omega
   simp[l6,bE,hk] at eR;simp[KX,BB,hj,bE,hk,xb,hm];intro e e';rcases eR with h|h
   ·exact absurd e h
   ·exact absurd e' h
  ·rw[a4] at cf;cases cf
  ·simp[KX,BB,hw];omega
 ·simp[Sa,FQ,hk,hb];refine⟨_,gd _ _,?_⟩;unfold yg at ho ⊢;simp only[aJ,bA hk,j9] at ho ⊢;cases e1:aC r.usances[k].fr r.cities.length
  ·simp
  simp;refine⟨_,gd _ _,?_⟩;cases e2:aC r.usances[k].to r.cities.length
  ·simp
  cases e3:wi r.usances[k].days 1 20000
  ·simp[wi] at e3;by_cases g:r.usances[k].days<1
   ·simp[g]
   ·simp[g,e3 (by omega)]
  have Ni:=e3;simp[wi] at Ni;have a5:¬r.usances[k].days<1:=by omega
  have a6:¬20000<r.usances[k].days:=by omega
  simp[e1,e2,e3] at ho;simp[a5,a6];refine⟨by omega,gA k (l6 r k) (fun j=>[.int 0,.int j]) (fun _=>[]) ?_ (fun j hj eR=>?_) (fun j hj eR cf=>?_) (fun rj=>?_)⟩
  ·simp
  ·have xb:=bp hj (by omega);have bE:j<r.usances.length:=by omega
   have hm:j<min k r.usances.length:=by omega
   simp[l6,bE,hk] at eR;simp[KX,BB,hj,bE,hk,xb,hm];intro e e';rcases eR with h|h
   ·exact absurd e h
   ·exact absurd e' h
  ·have bE:j<r.usances.length:=by omega
   have hm:j<min k r.usances.length:=by omega
   simp[l6,bE,hk] at eR;simp[KX,BB,hj,bE,hk,ho,hm]
   first|exact eR|simp[eR]
  ·rw[rj] at ho;cases ho
 ·simp[Sa,FQ,hj]
theorem aq2 (r:Realm)(h:Small r):ak T 67 [bk r] (.int (vC r)):=by
 refine .of_tree rfl (lA 101 (by kernel_rfl)) atQ ?_;have hu:=h.us;have hc:=h.cities;simp[T6,vC];by_cases h0:100<r.usances.length
 ·have gp:(100:Int)<r.usances.length:=by omega
  have wA:¬r.usances.length≤100:=by omega
  simp[h0,gp,wA]
 have gp:¬(100:Int)<r.usances.length:=by omega
 simp[h0,gp];refine oZ r.usances.length (yg r) (fun k=>[.int 0,.int k]) (fun _=>[]) ?_ (fun k hk ho=>?_) (fun k hk ho hb=>?_) (fun hj=>?_)
 ·simp
 ·have hw:=bp hk (by omega);have ha:aC r.usances[k].fr r.cities.length=true∧aC r.usances[k].to r.cities.length=true∧wi r.usances[k].days 1 20000=true∧eO k (l6 r k)=true:=by
   unfold yg at ho;simp only[aJ,bA hk,j9] at ho;cases e1:aC r.usances[k].fr r.cities.length<;>cases e2:aC r.usances[k].to r.cities.length<;>cases e3:wi r.usances[k].days 1 20000<;>cases e4:eO k (l6 r k)<;>simp[e1,e2,e3,e4] at ho ⊢
  obtain⟨a1,a2,a3,a4⟩:=ha;rw[nk] at a1 a2;simp[RY,FE,hk,se _ (show r.cities.length≤4294967296 by omega)];refine⟨_,cV _ _ _,?_⟩;simp[a1,se _ (show r.cities.length≤4294967296 by omega)];refine⟨_,cV _ _ _,?_⟩;simp[a2];refine⟨_,cV _ _ _,?_⟩;simp[a3];refine gA k (l6 r k) (fun j=>[.int 0,.int j]) (fun _=>[]) ?_ (fun j hj eR=>?_) (fun j hj eR cf=>?_) (fun rj=>?_)
  ·simp
  ·have xb:=bp hj (by omega);have bE:j<r.usances.length:=by omega
   simp[l6,bE,hk] at eR;simp[KN,Bw,hj,bE,hk,xb];intro e e';rcases eR with h|h
   ·exact absurd e h
   ·exact absurd e' h
  ·rw[a4] at cf;cases cf
  ·simp[KN,Bw,hw]
 ·simp[RY,FE,hk,hb,se _ (show r.cities.length≤4294967296 by omega)];refine⟨_,cV _ _ _,?_⟩;unfold yg at ho ⊢;simp only[aJ,bA hk,j9,nk] at ho ⊢;cases e1:wi r.usances[k].fr 0 ((r.cities.length:Int)-1)
  ·simp
  simp[se _ (show r.cities.length≤4294967296 by omega)];refine⟨_,cV _ _ _,?_⟩;cases e2:wi r.usances[k].to 0 ((r.cities.length:Int)-1)
  ·simp
  simp;refine⟨_,cV _ _ _,?_⟩;cases e3:wi r.usances[k].days 1 20000
  ·simp
  simp[e1,e2,e3] at ho;simp;refine gA k (l6 r k) (fun j=>[.int 0,.int j]) (fun _=>[]) ?_ (fun j hj eR=>?_) (fun j hj eR cf=>?_) (fun rj=>?_)
  ·simp
  ·have xb:=bp hj (by omega);have bE:j<r.usances.length:=by omega
   simp[l6,bE,hk] at eR;simp[KN,Bw,hj,bE,hk,xb];intro e e';rcases eR with h|h
   ·exact absurd e h
   ·exact absurd e' h
  ·have bE:j<r.usances.length:=by omega
   simp[l6,bE,hk] at eR;simp[KN,Bw,hj,bE,hk,ho]
   first|exact eR|simp[eR]
  ·rw[rj] at ho;cases ho
 ·simp[RY,FE,hj]
def xT (r:Realm)(k:Nat):Bool:=aC (r.rates.getD k default).fr r.currencies.length&&aC (r.rates.getD k default).to r.currencies.length&&((r.rates.getD k default).fr !=(r.rates.getD k default).to)&&
 wi (r.rates.getD k default).num 1 1073741824&&wi (r.rates.getD k default).den 1 1073741824&&wi (r.rates.getD k default).since 0 100000
def uz (r:Realm)(k:Nat):Bool:=aC (r.halts.getD k default).order r.orders.length&&wi (r.halts.getD k default).fr 0 (r.halts.getD k default).to&&decide ((r.halts.getD k default).to≤100000)
def oW (r:Realm):Int:=if 100<r.rates.length then 6 else if eO r.rates.length (xT r)=false then 1 else if 20<r.halts.length then 6 else if eO r.halts.length (uz r) then 0 else 1
theorem Jv {n:Int}(h:aW n)(m:Int)(hm:0≤m∧m≤4294967296):aC (IntKind.i64.wrap (n-1)) m=wi n 1 m:=by
 unfold aW at h;by_cases e:n=-9223372036854775808
 ·subst e;have:IntKind.i64.wrap (-9223372036854775808-1)=9223372036854775807:=by decide
  rw[this,tT];simp[aC,wi];omega
 ·rw[bU (by omega),tT];simp[aC,wi];omega
theorem ZF (n:Int):aC n 100001=wi n 0 100000:=by rw[tT];simp[aC,wi];omega
theorem arH (r:Realm)(h:Small r):ak T 137 [bk r] (.int (oW r)):=by
 refine .of_tree rfl (lA 64 (by kernel_rfl)) auh ?_;have hu:=h.rates;have hh:=h.halts;simp[Ut,oW];by_cases h0:100<r.rates.length
 ·have gp:(100:Int)<r.rates.length:=by omega
  have wA:¬r.rates.length≤100:=by omega
  simp[h0,gp,wA]
 have gp:¬(100:Int)<r.rates.length:=by omega
 simp[h0,gp];have key:∀k (hk:k<r.rates.length),∀{ρ:Env} {Q:Out→Prop},True:=fun _ _ _ _=>trivial;refine gA r.rates.length (xT r) (fun k=>[.int 0,.int k]) (fun _=>[]) ?_ (fun k hk ho=>?_) (fun k hk ho hb=>?_) (fun hj=>?_)
 ·simp
 ·have hw:=bp hk (by omega);have hI:=h.rate _ (cS hk);simp[xT,hk] at ho;obtain⟨⟨⟨⟨⟨a1,a2⟩,a3⟩,a4⟩,a5⟩,a6⟩:=ho;simp[R8,FO,hk];refine⟨_,gd _ _,?_⟩;simp[a1];refine⟨_,gd _ _,?_⟩;simp[a2,a3];refine⟨_,gd _ _,?_⟩;simp[Jv hI.1,a4];refine⟨_,gd _ _,?_⟩;simp[Jv hI.2,a5];refine⟨_,gd _ _,?_⟩;simp[ZF,a6,hw]
 ·have hI:=h.rate _ (cS hk);rw[hb];simp[xT,hk] at ho;simp[R8,FO,hk];refine⟨_,gd _ _,?_⟩;cases e1:aC r.rates[k].fr r.currencies.length
  ·simp
  simp;refine⟨_,gd _ _,?_⟩;cases e2:aC r.rates[k].to r.currencies.length
  ·simp
  by_cases e3:r.rates[k].fr=r.rates[k].to
  ·simp[e3]
  simp[e3];refine⟨_,gd _ _,?_⟩;rw[Jv hI.1 _ (by omega)];cases e4:wi r.rates[k].num 1 1073741824
  ·simp
  simp;refine⟨_,gd _ _,?_⟩;rw[Jv hI.2 _ (by omega)];cases e5:wi r.rates[k].den 1 1073741824
  ·simp
  simp;refine⟨_,gd _ _,?_⟩;rw[ZF];simp[ho e1 e2 e3 e4 e5]
 ·rw[hj];simp[R8,FO];by_cases h1:20<r.halts.length
  ·have cw:(20:Int)<r.halts.length:=by omega
   have NL:¬r.halts.length≤20:=by omega
   simp[h1,cw,NL]
  have cw:¬(20:Int)<r.halts.length:=by omega
  simp[h1,cw];refine gA r.halts.length (uz r) (fun k=>[.int 0,.int k]) (fun _=>[]) ?_ (fun k hk ho=>?_) (fun k hk ho hb=>?_) (fun hj=>?_)
  ·simp
  ·have hw:=bp hk (by omega);simp[uz,wi,hk] at ho;obtain⟨⟨a1,a2⟩,a3⟩:=ho;have b1:¬r.halts[k].fr<0:=by omega
   have b2:¬r.halts[k].to<r.halts[k].fr:=by omega
   have b3:¬100000<r.halts[k].to:=by omega
   simp[R9,FP,hk];refine⟨_,gd _ _,?_⟩;simp[a1,b1,b2,b3,hw]
  ·rw[hb];simp[uz,wi,hk] at ho;simp[R9,FP,hk];refine⟨_,gd _ _,?_⟩;cases e1:aC r.halts[k].order r.orders.length
   ·simp
   have:=ho e1;by_cases b1:r.halts[k].fr<0
   ·simp[b1]
   by_cases b2:r.halts[k].to<r.halts[k].fr
   ·simp[b1,b2]
   have b3:100000<r.halts[k].to:=this (by omega) (by omega);simp[b1,b2,b3]
  ·rw[hj];simp[R9,FP]
theorem aq1 (r:Realm)(h:Small r):ak T 68 [bk r] (.int (oW r)):=by
 refine .of_tree rfl (lA 102 (by kernel_rfl)) atP ?_;have hu:=h.rates;have hh:=h.halts;have hc:=se r.currencies.length (by have:=h.cur;omega);have Jk:=se r.orders.length (by have:=h.orders;omega);simp[T5,oW];by_cases h0:100<r.rates.length
 ·have gp:(100:Int)<r.rates.length:=by omega
  have wA:¬r.rates.length≤100:=by omega
  simp[h0,gp,wA]
 have gp:¬(100:Int)<r.rates.length:=by omega
 simp[h0,gp];refine gA r.rates.length (xT r) (fun k=>[.int 0,.int k]) (fun _=>[]) ?_ (fun k hk ho=>?_) (fun k hk ho hb=>?_) (fun hj=>?_)
 ·simp
 ·have hw:=bp hk (by omega);simp[xT,hk,nk] at ho;obtain⟨⟨⟨⟨⟨a1,a2⟩,a3⟩,a4⟩,a5⟩,a6⟩:=ho;simp[RW,FC,hk,hc];refine⟨_,cV _ _ _,?_⟩;simp[a1,hc];refine⟨_,cV _ _ _,?_⟩;simp[a2,a3];refine⟨_,cV _ _ _,?_⟩;simp[a4];refine⟨_,cV _ _ _,?_⟩;simp[a5];refine⟨_,cV _ _ _,?_⟩;simp[a6,hw]
 ·rw[hb];simp[xT,hk,nk] at ho;simp[RW,FC,hk,hc];refine⟨_,cV _ _ _,?_⟩;cases e1:wi r.rates[k].fr 0 ((r.currencies.length:Int)-1)
  ·simp
  simp[hc];refine⟨_,cV _ _ _,?_⟩;cases e2:wi r.rates[k].to 0 ((r.currencies.length:Int)-1)
  ·simp
  by_cases e3:r.rates[k].fr=r.rates[k].to
  ·simp[e3]
  simp[e3];refine⟨_,cV _ _ _,?_⟩;cases e4:wi r.rates[k].num 1 1073741824
  ·simp
  simp;refine⟨_,cV _ _ _,?_⟩;cases e5:wi r.rates[k].den 1 1073741824
  ·simp
  simp;refine⟨_,cV _ _ _,?_⟩;simp[ho e1 e2 e3 e4 e5]
 ·rw[hj];simp[RW,FC];by_cases h1:20<r.halts.length
  ·have cw:(20:Int)<r.halts.length:=by omega
   have NL:¬r.halts.length≤20:=by omega
   simp[h1,cw,NL]
  have cw:¬(20:Int)<r.halts.length:=by omega
  simp[h1,cw];refine gA r.halts.length (uz r) (fun k=>[.int 0,.int k]) (fun _=>[]) ?_ (fun k hk ho=>?_) (fun k hk ho hb=>?_) (fun hj=>?_)
  ·simp
  ·have hw:=bp hk (by omega);simp[uz,hk,nk] at ho;obtain⟨⟨a1,a2⟩,a3⟩:=ho;have b3:¬100000<r.halts[k].to:=by omega
   simp[RX,FD,hk,Jk];refine⟨_,cV _ _ _,?_⟩;simp[a1];refine⟨_,cV _ _ _,?_⟩;simp[a2,b3,hw]
  ·rw[hb];simp[uz,hk,nk] at ho;simp[RX,FD,hk,Jk];refine⟨_,cV _ _ _,?_⟩;cases e1:wi r.halts[k].order 0 ((r.orders.length:Int)-1)
   ·simp
   simp;refine⟨_,cV _ _ _,?_⟩;cases e2:wi r.halts[k].fr 0 r.halts[k].to
   ·simp
   simp[ho e1 e2]
  ·rw[hj];simp[RX,FD]
end Rm
namespace Rm
open Go Go.Proofs Cx
def fh:List Int→Int
 |[]=>0
 |x::l=>if x=0 then fh l else x
theorem SL:∀{l:List Int},fh l=0↔∀x,x∈l→x=0
 |[]=>by simp[fh]
 |x::l=>by
  simp only[fh,cT,forall_eq_or_imp];by_cases h:x=0
  ·simp[h,SL (l:=l)]
  ·simp[h]
def pS (r:Realm)(i:Nat):Bool:=aC (r.firms.getD i default).city r.cities.length&&aC (r.firms.getD i default).group r.groups.length
def pH (r:Realm)(i:Nat):Bool:=nW r (r.cities.getD i default)
def nu (r:Realm)(i:Nat):Bool:=qq (r.orders.getD i default)
def wz (r:Realm)(i:Nat):Bool:=aC (r.groups.getD i default).grade 10
def ux (r:Realm):Int:=if 20<r.groups.length then 6 else if eO r.groups.length (wz r) then 0 else 1
def lD (r:Realm):Int:=fh [fc r.currencies 8 (fun _=>true),fc (fD r) 40 (pH r),ux r,fc (fE r) 200 (pS r),fc (eX r) 20 (nu r),vC r,oW r]
theorem ahg (i:Int):ak T 130 [.int i] (.bool true):=by
 refine .of_tree rfl (lA 56 (by kernel_rfl)) at1 ?_;simp[Ug]
theorem ahh (r:Realm)(h:Small r)(i:Nat)(hi:i<r.cities.length):ak T 131 [.int i,.ref (bk r)] (.bool (pH r i)):=by
 refine .of_tree rfl (lA 57 (by kernel_rfl)) at2 ?_;obtain⟨h1,h2,h3,h4⟩:=h.city _ (cS hi);simp[Uh,hi,pH];exact arC r r.cities[i] (by omega) (by omega) (by omega)
theorem ahi (r:Realm)(i:Nat)(hi:i<r.firms.length):ak T 133 [.int i,.ref (bk r)] (.bool (pS r i)):=by
 refine .of_tree rfl (lA 60 (by kernel_rfl)) at3 ?_;simp[Ui,hi,pS];refine⟨_,gd _ _,?_⟩;simp[hi];cases e1:aC r.firms[i].city r.cities.length<;>simp;exact gd _ _
theorem ahj (r:Realm)(h:Small r)(i:Nat)(hi:i<r.orders.length):ak T 134 [.int i,.ref (bk r)] (.bool (nu r i)):=by
 refine .of_tree rfl (lA 61 (by kernel_rfl)) at4 ?_;obtain⟨h1,h2⟩:=h.order _ (cS hi);simp[Uj,hi,nu];exact arG r.orders[i] (by omega) (by omega)
theorem Sw (r:Realm)(h:Small r):ak T 84 [bk r] (.int (lD r)):=by
 refine .of_tree rfl (lA 49 (by kernel_rfl)) at5 ?_;have g1:=h.cur;have g2:=h.cities;have g3:=h.firms;have g4:=h.orders;have g5:=h.groups;simp[Uf];refine⟨_,arF r (by omega) (by omega) (by omega),?_⟩;simp;refine⟨_,K6 r.currencies 8 130 [] (fun _=>true) (fun i _=>ahg _) (by omega),?_⟩;unfold lD;generalize e1:fc r.currencies 8 (fun _=>true)=x1;by_cases z1:x1=0
 case neg=>simp[z1,fh]
 simp[z1,fh];refine⟨_,K6 (fD r) 40 131 [.ref (bk r)] (pH r) (fun i hi=>ahh r h i (by simpa [fD] using hi)) (by simp[fD];omega),?_⟩;generalize e2:fc (fD r) 40 (pH r)=x2;by_cases z2:x2=0
 case neg=>simp[z2]
 simp[z2];by_cases z3:20<r.groups.length
 ·have Vu:(20:Int)<r.groups.length:=by omega
  simp[Vu,ux,z3]
 have Vu:¬(20:Int)<r.groups.length:=by omega
 simp[Vu,ux,z3];refine gA r.groups.length (wz r) (fun k=>[.int 0,.int k]) (fun _=>[]) ?_ (fun k hk ho=>?_) (fun k hk ho hb=>?_) (fun hj=>?_)
 ·simp
 ·have hw:=bp hk (by omega);simp[wz,hk] at ho;simp[R2,FI,hk];refine⟨_,gd _ _,?_⟩;simp[ho,hw]
 ·simp[wz,hk] at ho;rw[hb];simp[R2,FI,hk];refine⟨_,gd _ _,?_⟩;simp[ho]
 ·rw[hj];simp[R2,FI];refine⟨_,K6 (fE r) 200 133 [.ref (bk r)] (pS r) (fun i hi=>ahi r i (by simpa [fE] using hi)) (by simp[fE];omega),?_⟩;generalize e4:fc (fE r) 200 (pS r)=x4;by_cases z4:x4=0
  case neg=>simp[z4]
  simp[z4];refine⟨_,K6 (eX r) 20 134 [.ref (bk r)] (nu r) (fun i hi=>ahj r h i (by simpa [eX] using hi)) (by simp[eX];omega),?_⟩;generalize e5:fc (eX r) 20 (nu r)=x5;by_cases z5:x5=0
  case neg=>simp[z5]
  simp[z5];refine⟨_,arJ r h,?_⟩;generalize e6:vC r=x6;by_cases z6:x6=0
  case neg=>simp[z6]
  simp[z6];have e7:(if oW r=0 then 0 else oW r)=oW r:=by split<;>simp_all
  rw[e7];exact arH r h
theorem aja (l:List ByteArray)(k:Nat):ki l (fun _=>true) k=gX l k:=by
 unfold ki;by_cases h:gX l k=0<;>simp[h]
theorem Dl {l:List ByteArray}{g:Nat→Bool}{k:Nat}(h:ki l g k=0):gX l k=0∧g k=true:=by
 unfold ki at h;by_cases h1:gX l k=0
 ·simp[h1] at h;exact⟨h1,h⟩
 ·simp[h1] at h
theorem NB {l:List ByteArray}{g:Nat→Bool}{k:Nat}(h:ki l g k≠0):(gX l k≠0∧ki l g k=gX l k)∨(gX l k=0∧g k=false∧ki l g k=1):=by
 unfold ki at h ⊢;by_cases h1:gX l k=0
 ·simp[h1] at h ⊢;simp[h]
 ·simp[h1]
theorem aqY (r:Realm)(h:Small r):ak T 64 [bk r] (.int (fh [fc r.currencies 8 (fun _=>true),fc (fD r) 40 (pH r)])):=by
 refine .of_tree rfl (lA 90 (by kernel_rfl)) atL ?_;have g1:=h.cur;have g2:=h.cities;have g4:=h.orders;simp[TZ];unfold fc;by_cases z1:(8:Int)<r.currencies.length
 ·simp[z1,fh]
 simp[z1,fh];refine oZ r.currencies.length (ki r.currencies (fun _=>true)) (fun k=>[.int 0,.int k]) (fun _=>[]) ?_ (fun k hk ho=>?_) (fun k hk ho hb=>?_) (fun hj=>?_)
 ·simp
 ·have hw:=bp hk (by omega);simp[RR,Fx,hk];refine⟨_,E6 _ k hk (by omega),?_⟩;simp[(Dl ho).1,hw]
 ·rw[hb];simp[RR,Fx,hk,ho];rw[aja];exact E6 _ k hk (by omega)
 ·rw[hj];simp[RR,Fx];have hlen:(fD r).length=r.cities.length:=by simp[fD]
  rw[hlen];by_cases z2:(40:Int)<r.cities.length
  ·simp[z2]
  simp[z2];have key:∀k (hk:k<r.cities.length),((fD r).take k).length=k∧D.list (List.take k (List.map str (fD r))++[str r.cities[k].name])=strs ((fD r).take (k+1))∧
     ak T 108 [strs ((fD r).take (k+1)),.int k] (.int (gX (fD r) k))∧ak T 109 [bk r,gH r.cities[k]] (.bool (pH r k)):=by
   intro k hk;have bm:k<(fD r).length:=by omega
   have hg:(fD r)[k]=r.cities[k].name:=by simp[fD]
   have hs:(fD r).take (k+1)=(fD r).take k++[(fD r)[k]]:=mV bm;have hn:=E6 ((fD r).take (k+1)) k (by rw[dW];omega) (by rw[dW];omega);rw[P3 _ _ _ (by omega)] at hn;obtain⟨c1,c2,c3,c4⟩:=h.city _ (cS hk);have hc:=aqW r r.cities[k] (by omega) (by omega) (by omega) (by omega) (by omega) c4;rw[ahp] at hc;exact⟨by rw[dW];omega,by rw[hs,hg];simp[strs],hn,by simpa [pH,hk] using hc⟩
  refine oZ r.cities.length (ki (fD r) (pH r)) (fun k=>[.int 0,.none,.int k]) (fun k=>[strs ((fD r).take k)]) ?_ (fun k hk ho=>?_) (fun k hk ho hb=>?_) (fun hj=>?_)
  ·simp[strs]
  ·have hw:=bp hk (by omega);obtain⟨hl,eT,hn,hc⟩:=key k hk;obtain⟨o1,o2⟩:=Dl ho;rw[o1] at hn;rw[o2] at hc;simp[RS,Fy,hk,hl,eT,ast];refine⟨by omega,_,hn,?_⟩;simp[hk];refine⟨_,hc,?_⟩;simp[hw]
  ·rw[hb];obtain⟨hl,eT,hn,hc⟩:=key k hk;simp[RS,Fy,hk,hl,eT,ho];refine⟨by omega,_,hn,?_⟩;rcases NB ho with⟨o1,o2⟩|⟨o1,o2,o3⟩
   ·simp[o1,o2]
   ·rw[o2] at hc;simp[o1,o3,hk];refine⟨_,hc,?_⟩;simp
  ·rw[hj];simp[RS,Fy]
theorem aqZ (r:Realm)(h:Small r):ak T 65 [bk r] (.int (fh [ux r,fc (fE r) 200 (pS r)])):=by
 refine .of_tree rfl (lA 98 (by kernel_rfl)) atM ?_;have g1:=h.groups;have g2:=h.firms;have g3:=h.cities;have w3:=se r.cities.length (by omega);have w1:=se r.groups.length (by omega);simp[T2];by_cases z1:20<r.groups.length
 ·have Vt:(20:Int)<r.groups.length:=by omega
  simp[Vt,ux,z1,fh]
 have Vt:¬(20:Int)<r.groups.length:=by omega
 simp[Vt,ux,z1,fh];refine gA r.groups.length (wz r) (fun k=>[.int 0,.int k]) (fun _=>[]) ?_ (fun k hk ho=>?_) (fun k hk ho hb=>?_) (fun hj=>?_)
 ·simp
 ·have hw:=bp hk (by omega);simp[wz,hk] at ho;have e:wi r.groups[k].grade 0 9=aC r.groups[k].grade 10:=by rw[tT];simp[wi,aC];omega
  simp[RT,Fz,hk];refine⟨_,cV _ _ _,?_⟩;simp[e,ho,hw]
 ·simp[wz,hk] at ho;have e:wi r.groups[k].grade 0 9=aC r.groups[k].grade 10:=by rw[tT];simp[wi,aC];omega
  rw[hb];simp[RT,Fz,hk];refine⟨_,cV _ _ _,?_⟩;simp[e,ho]
 ·rw[hj];simp[RT,Fz];unfold fc;have hlen:(fE r).length=r.firms.length:=by simp[fE]
  rw[hlen];by_cases z2:(200:Int)<r.firms.length
  ·simp[z2]
  simp[z2];have key:∀k (hk:k<r.firms.length),((fE r).take k).length=k∧D.list (List.take k (List.map str (fE r))++[str r.firms[k].name])=strs ((fE r).take (k+1))∧
     ak T 108 [strs ((fE r).take (k+1)),.int k] (.int (gX (fE r) k))∧pS r k=(wi r.firms[k].city 0 ((r.cities.length:Int)-1)&&wi r.firms[k].group 0 ((r.groups.length:Int)-1)):=by
   intro k hk;have bm:k<(fE r).length:=by omega
   have hg:(fE r)[k]=r.firms[k].name:=by simp[fE]
   have hs:(fE r).take (k+1)=(fE r).take k++[(fE r)[k]]:=mV bm;have hn:=E6 ((fE r).take (k+1)) k (by rw[dW];omega) (by rw[dW];omega);rw[P3 _ _ _ (by omega)] at hn;exact⟨by rw[dW];omega,by rw[hs,hg];simp[strs],hn,by simp[pS,hk,nk]⟩
  refine oZ r.firms.length (ki (fE r) (pS r)) (fun k=>[.int 0,.none,.int k]) (fun k=>[strs ((fE r).take k)]) ?_ (fun k hk ho=>?_) (fun k hk ho hb=>?_) (fun hj=>?_)
  ·simp[strs]
  ·have hw:=bp hk (by omega);obtain⟨hl,eT,hn,hc⟩:=key k hk;obtain⟨o1,o2⟩:=Dl ho;rw[o1] at hn;rw[o2] at hc;have IQ:=Bool.and_eq_true_iff.1 hc.symm;simp[RU,FA,hk,hl,eT];refine⟨by omega,_,hn,?_⟩;simp[hk,w3];refine⟨_,cV _ _ _,?_⟩;simp[IQ.1,hk,w1];refine⟨_,cV _ _ _,?_⟩;simp[IQ.2,hw]
  ·rw[hb];obtain⟨hl,eT,hn,hc⟩:=key k hk;simp[RU,FA,hk,hl,eT,ho];refine⟨by omega,_,hn,?_⟩;rcases NB ho with⟨o1,o2⟩|⟨o1,o2,o3⟩
   ·simp[o1,o2]
   ·rw[o2] at hc;simp[o1,o3,hk,w3];refine⟨_,cV _ _ _,?_⟩;cases e1:wi r.firms[k].city 0 ((r.cities.length:Int)-1)
    ·simp
    rw[e1,yn] at hc;simp[hk,w1];refine⟨_,cV _ _ _,?_⟩;simp[←hc]
  ·rw[hj];simp[RU,FA]
theorem aq0 (r:Realm)(h:Small r):ak T 66 [bk r] (.int (fc (eX r) 20 (nu r))):=by
 refine .of_tree rfl (lA 99 (by kernel_rfl)) atO ?_;have g2:=h.orders;simp[T4];unfold fc;have hlen:(eX r).length=r.orders.length:=by simp[eX]
 rw[hlen];by_cases z2:(20:Int)<r.orders.length
 ·simp[z2]
 simp[z2];have key:∀k (hk:k<r.orders.length),((eX r).take k).length=k∧D.list (List.take k (List.map str (eX r))++[str r.orders[k].name])=strs ((eX r).take (k+1))∧
  ak T 108 [strs ((eX r).take (k+1)),.int k] (.int (gX (eX r) k))∧ak T 110 [iZ r.orders[k]] (.bool (nu r k)):=by
  intro k hk;have bm:k<(eX r).length:=by omega
  have hg:(eX r)[k]=r.orders[k].name:=by simp[eX]
  have hs:(eX r).take (k+1)=(eX r).take k++[(eX r)[k]]:=mV bm;have hn:=E6 ((eX r).take (k+1)) k (by rw[dW];omega) (by rw[dW];omega);rw[P3 _ _ _ (by omega)] at hn;obtain⟨c1,c2⟩:=h.order _ (cS hk);exact⟨by rw[dW];omega,by rw[hs,hg];simp[strs],hn,by simpa [nu,hk] using aqX r.orders[k] (by omega) (by omega)⟩
 refine oZ r.orders.length (ki (eX r) (nu r)) (fun k=>[.int 0,.none,.int k]) (fun k=>[strs ((eX r).take k)]) ?_ (fun k hk ho=>?_) (fun k hk ho hb=>?_) (fun hj=>?_)
 ·simp[strs]
 ·have hw:=bp hk (by omega);obtain⟨hl,eT,hn,hc⟩:=key k hk;obtain⟨o1,o2⟩:=Dl ho;rw[o1] at hn;rw[o2] at hc;simp[RV,FB,hk,hl,eT];refine⟨by omega,_,hn,?_⟩;simp[hk];refine⟨_,hc,?_⟩;simp[hw]
 ·rw[hb];obtain⟨hl,eT,hn,hc⟩:=key k hk;simp[RV,FB,hk,hl,eT,ho];refine⟨by omega,_,hn,?_⟩;rcases NB ho with⟨o1,o2⟩|⟨o1,o2,o3⟩
  ·simp[o1,o2]
  ·rw[o2] at hc;simp[o1,o3,hk];refine⟨_,hc,?_⟩;simp
 ·rw[hj];simp[RV,FB]
theorem aqT (r:Realm)(h:Small r):ak T 32 [bk r] (.int (lD r)):=by
 refine .of_tree rfl (lA 89 (by kernel_rfl)) atC ?_
 have e:lD r=fh [fh [fc r.currencies 8 (fun _=>true),fc (fD r) 40 (pH r)],fh [ux r,fc (fE r) 200 (pS r)],fc (eX r) 20 (nu r),vC r,oW r]:=by
  unfold lD;simp only[fh];split<;>(try split)<;>(try split)<;>(try split)<;>simp_all
 rw[e];simp[TQ];refine⟨_,aqY r h,?_⟩;have h1:=aqZ r h;generalize fh [fc r.currencies 8 (fun _=>true),fc (fD r) 40 (pH r)]=x1 at*;generalize fh [ux r,fc (fE r) 200 (pS r)]=x2 at*;have h2:=aq0 r h;generalize fc (eX r) 20 (nu r)=x3 at*;have h3:=aq2 r h;generalize vC r=x4 at*;have h4:=aq1 r h;generalize oW r=x5 at*;by_cases z1:x1=0
 case neg=>simp[z1,fh]
 simp[z1,fh];refine⟨_,h1,?_⟩;by_cases z2:x2=0
 case neg=>simp[z2]
 simp[z2];refine⟨_,h2,?_⟩;by_cases z3:x3=0
 case neg=>simp[z3]
 simp[z3];refine⟨_,h3,?_⟩;by_cases z4:x4=0
 case neg=>simp[z4]
 simp[z4];have e7:(if x5=0 then 0 else x5)=x5:=by split<;>simp_all
 rw[e7];exact h4
end Rm
namespace Rm
open Go Go.Proofs Cx
def j3:Nat→Tm→Int→Int
 |0,_,_=>-1
 |L+1,t,n=>t.args.foldl (fun m a=>if 0≤m then j3 L a m else m) (n-1)
theorem size_le:∀(L:Nat) (t:Tm) (n:Int),0≤n→-1≤j3 L t n∧j3 L t n≤n
 |0,t,n,h=>by simp[j3];omega
 |L+1,t,n,h=>by
  have key:∀(l:List Tm) (m:Int),-1≤m→m≤n→-1≤l.foldl (fun m a=>if 0≤m then j3 L a m else m) m∧l.foldl (fun m a=>if 0≤m then j3 L a m else m) m≤n:=by
   intro l
   induction l with
   |nil=>intro m h1 h2;exact⟨h1,h2⟩
   |cons a l ih=>
    intro m h1 h2;simp only[GJ];split
    ·rename_i hm;have:=size_le L a m hm;exact ih _ this.1 (by omega)
    ·exact ih _ h1 h2
  exact key _ _ (by omega) (by omega)
theorem aec (L:Nat):∀(l:List Tm) (m:Int),m<0→l.foldl (fun m a=>if 0≤m then j3 L a m else m) m=m
 |[],m,h=>rfl
 |a::l,m,h=>by simp only[GJ];rw[if_neg (by omega)];exact aec L l m h
theorem akc {α β:Type}(f:β→α→β)(b:β){l:List α}{k:Nat}(h:k<l.length):(l.take (k+1)).foldl f b=f ((l.take k).foldl f b) l[k]:=by
 rw[mV h,GI];rfl
theorem akb {α β:Type}(f:β→α→β)(b:β)(l:List α)(k:Nat):l.foldl f b=(l.drop k).foldl f ((l.take k).foldl f b):=by
 rw[←GI,L4]
theorem _root_.Cx.Tm.OK.len {t:Tm}(h:t.OK):t.args.length≤9223372036854775807:=by cases h with|mk o n xs h1 h2 h3 h4=>exact h3
theorem _root_.Cx.Tm.OK.arg {t:Tm}(h:t.OK){a:Tm}(ha:a∈t.args):a.OK:=by cases h with|mk o n xs h1 h2 h3 h4=>exact h4 a ha
theorem ac6:∀(L:Nat) (t:Tm) (n:Int),t.OK→0≤n→n≤1000→L≤1000→ak T 146 [du t,.int n,.int L] (.int (j3 L t n))
 |0,t,n,ht,h0,h1,hL=>by
  refine .of_tree rfl Wq aeu ?_;simp[LF,j3]
 |L+1,t,n,ht,h0,h1,hL=>by
  refine .of_tree rfl Wq aeu ?_;have ry:IntKind.i64.wrap (n-1)=n-1:=bU (by omega);have hl:=ht.len;have lI:¬((L:Int)+1<1):=by omega
  simp[LF,ry,lI]
  let g:Nat→Int:=fun k=>(t.args.take k).foldl (fun m a=>if 0≤m then j3 L a m else m) (n-1)
  have gb:∀k,-1≤g k∧g k≤1000:=by
   intro k;have:g k=j3 (L+1) (.mk 0 0 (t.args.take k)) n:=rfl;have:=size_le (L+1) (.mk 0 0 (t.args.take k)) n h0;omega
  refine .scan t.args.length (fun k=>0≤g k) (fun k=>[.int (g k),.int k]) (fun _=>[]) ?_ (fun k hk hj ho=>?_) (fun k hk hj ho=>?_) (fun hj=>?_)
  ·simp[g,ry]
  ·have hw:IntKind.i64.wrap ((k:Int)+1)=(k:Int)+1:=bU (by omega);have Js:IntKind.i64.wrap (L:Int)=(L:Int):=bU (by omega);have hg:g (k+1)=j3 L t.args[k] (g k):=by
    show(t.args.take (k+1)).foldl _ _=_;rw[akc _ _ hk];show(if 0≤g k then _ else _)=_;rw[if_pos ho]
   rw[hg];have gJ:=ac6 L t.args[k] (g k) (ht.arg (cS hk)) ho (gb k).2 (by omega);generalize g k=m at*;simp[RZ,FF,hk,ho,Js];refine⟨_,gJ,?_⟩;simp[hw]
  ·have hf:j3 (L+1) t n=g k:=by
    show t.args.foldl _ _=_;rw[akb _ _ _ k];exact aec L _ _ (by show g k<0;omega)
   rw[hf];generalize g k=m at*;simp[RZ,FF,hk,ho]
  ·have hf:j3 (L+1) t n=g t.args.length:=by
    show t.args.foldl _ _=(t.args.take t.args.length).foldl _ _;rw[List.take_length]
   rw[hf];generalize g t.args.length=m at*;simp[RZ,FF]
theorem ac4 (t:Tm)(ht:t.OK):ak T 107 [du t] (.bool (decide (0≤j3 20 t 100))):=by
 refine .of_tree rfl (lA 87 (by kernel_rfl)) atW ?_;simp[Ua];refine⟨_,ac6 20 t 100 ht (by omega) (by omega) (by omega),?_⟩;simp
def q7 (o:Order):Bool:=(decide (o.rules.length≤60)&&decide (o.choices.length≤60))&&eO o.rules.length (fun k=>decide (0≤j3 20 (o.rules.getD k default).term 100))
theorem ac7 (o:Order)(ho:o.OK):ak T 63 [iZ o] (.bool (q7 o)):=by
 refine .of_tree rfl (lA 86 (by kernel_rfl)) atY ?_;simp[Uc];by_cases h1:(o.rules.length:Int)≤60
 case neg=>
  have cw:(60:Int)<o.rules.length:=by omega
  have hf:q7 o=false:=by
   have:decide (o.rules.length≤60)=false:=decide_eq_false (by omega);simp only[q7,this,sk]
  simp[cw,hf]
 by_cases h2:(o.choices.length:Int)≤60
 case neg=>
  have cw:(60:Int)<o.choices.length:=by omega
  have hf:q7 o=false:=by
   have:decide (o.choices.length≤60)=false:=decide_eq_false (by omega);simp only[q7,this,sk,ym]
  simp[cw,hf]
 have cw:¬(60:Int)<o.rules.length:=by omega
 have gU:¬(60:Int)<o.choices.length:=by omega
 have hf:q7 o=eO o.rules.length (fun k=>decide (0≤j3 20 (o.rules.getD k default).term 100)):=by
  have e1:decide (o.rules.length≤60)=true:=decide_eq_true (by omega);have e2:decide (o.choices.length≤60)=true:=decide_eq_true (by omega);simp only[q7,e1,e2,yn]
 rw[hf];simp[cw,gU];have hO:=ho.2.2;refine gA o.rules.length (fun k=>decide (0≤j3 20 (o.rules.getD k default).term 100)) (fun k=>[.bool false,.int k]) (fun _=>[]) ?_ (fun k hk ho=>?_) (fun k hk ho hb=>?_) (fun hj=>?_)
 ·simp
 ·have hw:=bp hk (by omega);simp[hk] at ho;simp[R0,FG,hk];refine⟨_,ac4 _ (hO _ (cS hk)).2,?_⟩;simp[ho,hw]
 ·simp only[aJ] at hb;rw[hb];simp[hk] at ho;simp[R0,FG,hk];refine⟨_,ac4 _ (hO _ (cS hk)).2,?_⟩;simp[ho]
 ·simp only[aJ] at hj;rw[hj];simp[R0,FG]
def Dh (f:File):Bool:=decide ((f.signs.length:Int)≤50)&&decide ((f.alters.length:Int)≤10)&&decide ((f.acts.length:Int)≤110)&&decide ((f.facts.length:Int)≤220)
theorem aq7 (f:File):ak T 62 [cZ f] (.bool (Dh f)):=by
 refine .of_tree rfl (lA 85 (by kernel_rfl)) atU ?_;simp[T8,Dh];by_cases h1:(f.signs.length:Int)≤50<;>by_cases h2:(f.alters.length:Int)≤10<;>by_cases h3:(f.acts.length:Int)≤110<;>by_cases h4:(f.facts.length:Int)≤220<;>
  simp[h1,h2,h3,h4]
end Rm
