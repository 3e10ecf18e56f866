/-
  Shared texts of this claim.
-/
import Derived.Test.YtehiffddpebpkaaGreatDoorKAJ
import Derived.Test.YtehiffddpebpkaaGreatDoorProg
set_option linter.unusedSimpArgs false
set_option linter.unusedVariables false
namespace Rm
open Go Cx
abbrev str (b:ByteArray):D:=.v (.string b)
def strs (l:List ByteArray):D:=.list (l.map str)
@[simp] theorem agm (l:List ByteArray):(strs l).l=l.map str:=_root_.id rfl
theorem str_inv {d:D}(h:DTy .str d):∃b,d=str b:=by
 cases h with
 |str b=>exact⟨b,rfl⟩
 |other t d h=>exact h.elim
theorem adn {d:D}(h:DTy (.slice .str) d):∃l:List ByteArray,d=strs l∧l.length≤maxLen:=by
 obtain⟨xs,rfl,hm,hx⟩:=h.slice_inv
 obtain⟨l,rfl,hl⟩:=cn (enc:=str) (P:=fun _=>True) fun x hh=>(str_inv (hx x hh)).imp fun b hb=>⟨hb,trivial⟩
 exact⟨l,rfl,by simpa using hm⟩
@[simp] theorem aj9 (t:Tm):(jz t).cells=[.int t.op,.int t.n,.list (t.args.map jz)]:=by rw[Hr];rfl
@[simp] theorem alX (t:Tm):D.agg [.int t.op,.int t.n,.list (t.args.map jz)]=jz t:=(Hr t).symm
@[simp] theorem alW (t:Tm):(jz t).c 0=.int t.op:=by rw[Hr];rfl
@[simp] theorem alV (t:Tm):(jz t).c 1=.int t.n:=by rw[Hr];rfl
@[simp] theorem alY (t:Tm):(jz t).c 2=.list (t.args.map jz):=by rw[Hr];rfl
structure City where
 name:ByteArray
 order:Int
 currency:Int
 rest:List Int
 feasts:List Int
 shut:List Int
 deriving Inhabited
def bI (x:City):D:=.agg [str x.name,.int x.order,.int x.currency,ints x.rest,ints x.feasts,ints x.shut]
@[simp] theorem agh (x:City):(bI x).cells=[str x.name,.int x.order,.int x.currency,ints x.rest,ints x.feasts,ints x.shut]:=_root_.id rfl
@[simp] theorem ajn (x:City):D.agg [str x.name,.int x.order,.int x.currency,ints x.rest,ints x.feasts,ints x.shut]=bI x:=_root_.id rfl
@[simp] theorem ag0 (x:City):v9 6 (bI x)=bI x:=_root_.id rfl
@[simp] theorem ai3 (x:City):(bI x).c 0=str x.name:=_root_.id rfl
@[simp] theorem ajC (x:City):(bI x).c 1=.int x.order:=_root_.id rfl
@[simp] theorem aji (x:City):(bI x).c 2=.int x.currency:=_root_.id rfl
@[simp] theorem akt (x:City):(bI x).c 3=ints x.rest:=_root_.id rfl
@[simp] theorem ajP (x:City):(bI x).c 4=ints x.feasts:=_root_.id rfl
@[simp] theorem akb (x:City):(bI x).c 5=ints x.shut:=_root_.id rfl
def ya (l:List City):D:=.list (l.map bI)
@[simp] theorem ajK (l:List City):(ya l).l=l.map bI:=_root_.id rfl
abbrev YB:Ty:=.agg [.str,.int .i64,.int .i64,.slice (.int .i64),.slice (.int .i64),.slice (.int .i64)]
def City.OK (x:City):Prop:=I64 x.order∧I64 x.currency∧(x.rest.length≤maxLen∧∀y,y∈x.rest→I64 y)∧(x.feasts.length≤maxLen∧∀y,y∈x.feasts→I64 y)∧(x.shut.length≤maxLen∧∀y,y∈x.shut→I64 y)
theorem adu {d:D}(h:DTy YB d):∃x:City,d=bI x∧x.OK:=by
 obtain⟨ds,rfl,hs⟩:=h.agg_inv
 obtain⟨d0,ds,rfl,h0,hs⟩:=hs.cons_inv
 obtain⟨d1,ds,rfl,h1,hs⟩:=hs.cons_inv
 obtain⟨d2,ds,rfl,h2,hs⟩:=hs.cons_inv
 obtain⟨d3,ds,rfl,h3,hs⟩:=hs.cons_inv
 obtain⟨d4,ds,rfl,h4,hs⟩:=hs.cons_inv
 obtain⟨d5,ds,rfl,h5,hs⟩:=hs.cons_inv
 obtain rfl:=hs.nil_inv
 obtain⟨n0,rfl⟩:=str_inv h0
 obtain⟨n1,rfl,b1⟩:=h1.i64_inv
 obtain⟨n2,rfl,b2⟩:=h2.i64_inv
 obtain⟨n3,rfl,b3,c3⟩:=h3.ints_inv
 obtain⟨n4,rfl,b4,c4⟩:=h4.ints_inv
 obtain⟨n5,rfl,b5,c5⟩:=h5.ints_inv
 exact⟨⟨n0,n1,n2,n3,n4,n5⟩,rfl,⟨b1,b2,⟨b3,c3⟩,⟨b4,c4⟩,⟨b5,c5⟩⟩⟩
theorem aaS {d:D}(h:DTy (.slice YB) d):∃l:List City,d=ya l∧l.length≤maxLen∧∀y,y∈l→City.OK y:=by
 obtain⟨xs,rfl,hm,hx⟩:=h.slice_inv
 obtain⟨l,rfl,hl⟩:=cn (enc:=bI) (P:=City.OK) fun x hh=>adu (hx x hh)
 exact⟨l,rfl,by simpa using hm,hl⟩
structure Firm where
 name:ByteArray
 city:Int
 group:Int
 deriving Inhabited
def rH (x:Firm):D:=.agg [str x.name,.int x.city,.int x.group]
@[simp] theorem agn (x:Firm):(rH x).cells=[str x.name,.int x.city,.int x.group]:=_root_.id rfl
@[simp] theorem aj7 (x:Firm):D.agg [str x.name,.int x.city,.int x.group]=rH x:=_root_.id rfl
@[simp] theorem aiY (x:Firm):(rH x).c 0=str x.name:=_root_.id rfl
@[simp] theorem aka (x:Firm):(rH x).c 1=.int x.city:=_root_.id rfl
@[simp] theorem akB (x:Firm):(rH x).c 2=.int x.group:=_root_.id rfl
def firms (l:List Firm):D:=.list (l.map rH)
@[simp] theorem ai1 (l:List Firm):(firms l).l=l.map rH:=_root_.id rfl
abbrev Ym:Ty:=.agg [.str,.int .i64,.int .i64]
def Firm.OK (x:Firm):Prop:=I64 x.city∧I64 x.group
theorem ac6 {d:D}(h:DTy Ym d):∃x:Firm,d=rH x∧x.OK:=by
 obtain⟨ds,rfl,hs⟩:=h.agg_inv
 obtain⟨d0,ds,rfl,h0,hs⟩:=hs.cons_inv
 obtain⟨d1,ds,rfl,h1,hs⟩:=hs.cons_inv
 obtain⟨d2,ds,rfl,h2,hs⟩:=hs.cons_inv
 obtain rfl:=hs.nil_inv
 obtain⟨n0,rfl⟩:=str_inv h0
 obtain⟨n1,rfl,b1⟩:=h1.i64_inv
 obtain⟨n2,rfl,b2⟩:=h2.i64_inv
 exact⟨⟨n0,n1,n2⟩,rfl,⟨b1,b2⟩⟩
theorem abx {d:D}(h:DTy (.slice Ym) d):∃l:List Firm,d=firms l∧l.length≤maxLen∧∀y,y∈l→Firm.OK y:=by
 obtain⟨xs,rfl,hm,hx⟩:=h.slice_inv
 obtain⟨l,rfl,hl⟩:=cn (enc:=rH) (P:=Firm.OK) fun x hh=>ac6 (hx x hh)
 exact⟨l,rfl,by simpa using hm,hl⟩
structure Group where
 grade:Int
 deriving DecidableEq,Inhabited
def sn (x:Group):D:=.agg [.int x.grade]
@[simp] theorem afe (x:Group):(sn x).cells=[.int x.grade]:=_root_.id rfl
@[simp] theorem ahx (x:Group):D.agg [.int x.grade]=sn x:=_root_.id rfl
@[simp] theorem aha (x:Group):(sn x).c 0=.int x.grade:=_root_.id rfl
def groups (l:List Group):D:=.list (l.map sn)
@[simp] theorem aiC (l:List Group):(groups l).l=l.map sn:=_root_.id rfl
abbrev Vg:Ty:=.agg [.int .i64]
def Group.OK (x:Group):Prop:=I64 x.grade
theorem aby {d:D}(h:DTy Vg d):∃x:Group,d=sn x∧x.OK:=by
 obtain⟨ds,rfl,hs⟩:=h.agg_inv
 obtain⟨d0,ds,rfl,h0,hs⟩:=hs.cons_inv
 obtain rfl:=hs.nil_inv
 obtain⟨n0,rfl,b0⟩:=h0.i64_inv
 exact⟨⟨n0⟩,rfl,b0⟩
theorem Zl {d:D}(h:DTy (.slice Vg) d):∃l:List Group,d=groups l∧l.length≤maxLen∧∀y,y∈l→Group.OK y:=by
 obtain⟨xs,rfl,hm,hx⟩:=h.slice_inv
 obtain⟨l,rfl,hl⟩:=cn (enc:=sn) (P:=Group.OK) fun x hh=>aby (hx x hh)
 exact⟨l,rfl,by simpa using hm,hl⟩
structure Usance where
 fr:Int
 to:Int
 days:Int
 deriving DecidableEq,Inhabited
def ij (x:Usance):D:=.agg [.int x.fr,.int x.to,.int x.days]
@[simp] theorem aec (x:Usance):(ij x).cells=[.int x.fr,.int x.to,.int x.days]:=_root_.id rfl
@[simp] theorem agF (x:Usance):D.agg [.int x.fr,.int x.to,.int x.days]=ij x:=_root_.id rfl
@[simp] theorem agt (x:Usance):(ij x).c 0=.int x.fr:=_root_.id rfl
@[simp] theorem ag4 (x:Usance):(ij x).c 1=.int x.to:=_root_.id rfl
@[simp] theorem ag6 (x:Usance):(ij x).c 2=.int x.days:=_root_.id rfl
def usances (l:List Usance):D:=.list (l.map ij)
@[simp] theorem ag7 (l:List Usance):(usances l).l=l.map ij:=_root_.id rfl
abbrev P6:Ty:=.agg [.int .i64,.int .i64,.int .i64]
def Usance.OK (x:Usance):Prop:=I64 x.fr∧I64 x.to∧I64 x.days
theorem Ys {d:D}(h:DTy P6 d):∃x:Usance,d=ij x∧x.OK:=by
 obtain⟨ds,rfl,hs⟩:=h.agg_inv
 obtain⟨d0,ds,rfl,h0,hs⟩:=hs.cons_inv
 obtain⟨d1,ds,rfl,h1,hs⟩:=hs.cons_inv
 obtain⟨d2,ds,rfl,h2,hs⟩:=hs.cons_inv
 obtain rfl:=hs.nil_inv
 obtain⟨n0,rfl,b0⟩:=h0.i64_inv
 obtain⟨n1,rfl,b1⟩:=h1.i64_inv
 obtain⟨n2,rfl,b2⟩:=h2.i64_inv
 exact⟨⟨n0,n1,n2⟩,rfl,⟨b0,b1,b2⟩⟩
theorem Wg {d:D}(h:DTy (.slice P6) d):∃l:List Usance,d=usances l∧l.length≤maxLen∧∀y,y∈l→Usance.OK y:=by
 obtain⟨xs,rfl,hm,hx⟩:=h.slice_inv
 obtain⟨l,rfl,hl⟩:=cn (enc:=ij) (P:=Usance.OK) fun x hh=>Ys (hx x hh)
 exact⟨l,rfl,by simpa using hm,hl⟩
structure Rate where
 fr:Int
 to:Int
 num:Int
 den:Int
 since:Int
 deriving DecidableEq,Inhabited
def lC (x:Rate):D:=.agg [.int x.fr,.int x.to,.int x.num,.int x.den,.int x.since]
@[simp] theorem afO (x:Rate):(lC x).cells=[.int x.fr,.int x.to,.int x.num,.int x.den,.int x.since]:=_root_.id rfl
@[simp] theorem ajR (x:Rate):D.agg [.int x.fr,.int x.to,.int x.num,.int x.den,.int x.since]=lC x:=_root_.id rfl
@[simp] theorem aiZ (x:Rate):(lC x).c 0=.int x.fr:=_root_.id rfl
@[simp] theorem ajM (x:Rate):(lC x).c 1=.int x.to:=_root_.id rfl
@[simp] theorem ajW (x:Rate):(lC x).c 2=.int x.num:=_root_.id rfl
@[simp] theorem ajg (x:Rate):(lC x).c 3=.int x.den:=_root_.id rfl
@[simp] theorem ajp (x:Rate):(lC x).c 4=.int x.since:=_root_.id rfl
def rates (l:List Rate):D:=.list (l.map lC)
@[simp] theorem ajY (l:List Rate):(rates l).l=l.map lC:=_root_.id rfl
abbrev Yq:Ty:=.agg [.int .i64,.int .i64,.int .i64,.int .i64,.int .i64]
def Rate.OK (x:Rate):Prop:=I64 x.fr∧I64 x.to∧I64 x.num∧I64 x.den∧I64 x.since
theorem aca {d:D}(h:DTy Yq d):∃x:Rate,d=lC x∧x.OK:=by
 obtain⟨ds,rfl,hs⟩:=h.agg_inv
 obtain⟨d0,ds,rfl,h0,hs⟩:=hs.cons_inv
 obtain⟨d1,ds,rfl,h1,hs⟩:=hs.cons_inv
 obtain⟨d2,ds,rfl,h2,hs⟩:=hs.cons_inv
 obtain⟨d3,ds,rfl,h3,hs⟩:=hs.cons_inv
 obtain⟨d4,ds,rfl,h4,hs⟩:=hs.cons_inv
 obtain rfl:=hs.nil_inv
 obtain⟨n0,rfl,b0⟩:=h0.i64_inv
 obtain⟨n1,rfl,b1⟩:=h1.i64_inv
 obtain⟨n2,rfl,b2⟩:=h2.i64_inv
 obtain⟨n3,rfl,b3⟩:=h3.i64_inv
 obtain⟨n4,rfl,b4⟩:=h4.i64_inv
 exact⟨⟨n0,n1,n2,n3,n4⟩,rfl,⟨b0,b1,b2,b3,b4⟩⟩
theorem aaV {d:D}(h:DTy (.slice Yq) d):∃l:List Rate,d=rates l∧l.length≤maxLen∧∀y,y∈l→Rate.OK y:=by
 obtain⟨xs,rfl,hm,hx⟩:=h.slice_inv
 obtain⟨l,rfl,hl⟩:=cn (enc:=lC) (P:=Rate.OK) fun x hh=>aca (hx x hh)
 exact⟨l,rfl,by simpa using hm,hl⟩
structure Halt where
 order:Int
 fr:Int
 to:Int
 deriving DecidableEq,Inhabited
def qW (x:Halt):D:=.agg [.int x.order,.int x.fr,.int x.to]
@[simp] theorem afG (x:Halt):(qW x).cells=[.int x.order,.int x.fr,.int x.to]:=_root_.id rfl
@[simp] theorem ajU (x:Halt):D.agg [.int x.order,.int x.fr,.int x.to]=qW x:=_root_.id rfl
@[simp] theorem ajZ (x:Halt):(qW x).c 0=.int x.order:=_root_.id rfl
@[simp] theorem ajB (x:Halt):(qW x).c 1=.int x.fr:=_root_.id rfl
@[simp] theorem ajv (x:Halt):(qW x).c 2=.int x.to:=_root_.id rfl
def halts (l:List Halt):D:=.list (l.map qW)
@[simp] theorem aku (l:List Halt):(halts l).l=l.map qW:=_root_.id rfl
abbrev YT:Ty:=.agg [.int .i64,.int .i64,.int .i64]
def Halt.OK (x:Halt):Prop:=I64 x.order∧I64 x.fr∧I64 x.to
theorem acT {d:D}(h:DTy YT d):∃x:Halt,d=qW x∧x.OK:=by
 obtain⟨ds,rfl,hs⟩:=h.agg_inv
 obtain⟨d0,ds,rfl,h0,hs⟩:=hs.cons_inv
 obtain⟨d1,ds,rfl,h1,hs⟩:=hs.cons_inv
 obtain⟨d2,ds,rfl,h2,hs⟩:=hs.cons_inv
 obtain rfl:=hs.nil_inv
 obtain⟨n0,rfl,b0⟩:=h0.i64_inv
 obtain⟨n1,rfl,b1⟩:=h1.i64_inv
 obtain⟨n2,rfl,b2⟩:=h2.i64_inv
 exact⟨⟨n0,n1,n2⟩,rfl,⟨b0,b1,b2⟩⟩
theorem aaL {d:D}(h:DTy (.slice YT) d):∃l:List Halt,d=halts l∧l.length≤maxLen∧∀y,y∈l→Halt.OK y:=by
 obtain⟨xs,rfl,hm,hx⟩:=h.slice_inv
 obtain⟨l,rfl,hl⟩:=cn (enc:=qW) (P:=Halt.OK) fun x hh=>acT (hx x hh)
 exact⟨l,rfl,by simpa using hm,hl⟩
structure Choice where
 ask:Int
 by_:Int
 whole:Bool
 deriving DecidableEq,Inhabited
def lq (x:Choice):D:=.agg [.int x.ask,.int x.by_,.bool x.whole]
@[simp] theorem aeA (x:Choice):(lq x).cells=[.int x.ask,.int x.by_,.bool x.whole]:=_root_.id rfl
@[simp] theorem agG (x:Choice):D.agg [.int x.ask,.int x.by_,.bool x.whole]=lq x:=_root_.id rfl
@[simp] theorem agr (x:Choice):(lq x).c 0=.int x.ask:=_root_.id rfl
@[simp] theorem ag5 (x:Choice):(lq x).c 1=.int x.by_:=_root_.id rfl
def choices (l:List Choice):D:=.list (l.map lq)
@[simp] theorem agD (l:List Choice):(choices l).l=l.map lq:=_root_.id rfl
abbrev QU:Ty:=.agg [.int .i64,.int .i64,.bool]
def Choice.OK (x:Choice):Prop:=I64 x.ask∧I64 x.by_
theorem Yj {d:D}(h:DTy QU d):∃x:Choice,d=lq x∧x.OK:=by
 obtain⟨ds,rfl,hs⟩:=h.agg_inv
 obtain⟨d0,ds,rfl,h0,hs⟩:=hs.cons_inv
 obtain⟨d1,ds,rfl,h1,hs⟩:=hs.cons_inv
 obtain⟨d2,ds,rfl,h2,hs⟩:=hs.cons_inv
 obtain rfl:=hs.nil_inv
 obtain⟨n0,rfl,b0⟩:=h0.i64_inv
 obtain⟨n1,rfl,b1⟩:=h1.i64_inv
 obtain⟨n2,rfl⟩:=h2.bool_inv
 exact⟨⟨n0,n1,n2⟩,rfl,⟨b0,b1⟩⟩
theorem V1 {d:D}(h:DTy (.slice QU) d):∃l:List Choice,d=choices l∧l.length≤maxLen∧∀y,y∈l→Choice.OK y:=by
 obtain⟨xs,rfl,hm,hx⟩:=h.slice_inv
 obtain⟨l,rfl,hl⟩:=cn (enc:=lq) (P:=Choice.OK) fun x hh=>Yj (hx x hh)
 exact⟨l,rfl,by simpa using hm,hl⟩
structure Rule where
 ask:Int
 term:Tm
 deriving Inhabited
def q8 (x:Rule):D:=.agg [.int x.ask,.int x.term.op,.int x.term.n,.list (x.term.args.map jz)]
@[simp] theorem agb (x:Rule):(q8 x).cells=[.int x.ask,.int x.term.op,.int x.term.n,.list (x.term.args.map jz)]:=_root_.id rfl
@[simp] theorem aks (x:Rule):D.agg [.int x.ask,.int x.term.op,.int x.term.n,.list (x.term.args.map jz)]=q8 x:=_root_.id rfl
@[simp] theorem ajE (x:Rule):(q8 x).c 0=.int x.ask:=_root_.id rfl
def rules (l:List Rule):D:=.list (l.map q8)
@[simp] theorem ajk (l:List Rule):(rules l).l=l.map q8:=_root_.id rfl
abbrev Yw:Ty:=.agg [.int .i64,.int .i64,.int .i64,.slice .trm]
def Rule.OK (x:Rule):Prop:=I64 x.ask∧Tm.OK x.term
theorem ac8 {d:D}(h:DTy Yw d):∃x:Rule,d=q8 x∧x.OK:=by
 obtain⟨ds,rfl,hs⟩:=h.agg_inv
 obtain⟨d0,ds,rfl,h0,hs⟩:=hs.cons_inv
 obtain⟨d1,ds,rfl,h1,hs⟩:=hs.cons_inv
 obtain⟨d2,ds,rfl,h2,hs⟩:=hs.cons_inv
 obtain⟨d3,ds,rfl,h3,hs⟩:=hs.cons_inv
 obtain rfl:=hs.nil_inv
 obtain⟨n0,rfl,b0⟩:=h0.i64_inv
 obtain⟨n1,rfl,b1⟩:=h1.i64_inv
 obtain⟨n2,rfl,b2⟩:=h2.i64_inv
 obtain⟨n3,rfl,b3,c3⟩:=h3.trms_inv
 exact⟨⟨n0,.mk n1 n2 n3⟩,rfl,⟨b0,.mk _ _ _ b1 b2 b3 c3⟩⟩
theorem abK {d:D}(h:DTy (.slice Yw) d):∃l:List Rule,d=rules l∧l.length≤maxLen∧∀y,y∈l→Rule.OK y:=by
 obtain⟨xs,rfl,hm,hx⟩:=h.slice_inv
 obtain⟨l,rfl,hl⟩:=cn (enc:=q8) (P:=Rule.OK) fun x hh=>ac8 (hx x hh)
 exact⟨l,rfl,by simpa using hm,hl⟩
structure Order where
 name:ByteArray
 accepts:Bool
 choices:List Choice
 rules:List Rule
 deriving Inhabited
def bQ (x:Order):D:=.agg [str x.name,.bool x.accepts,choices x.choices,rules x.rules]
@[simp] theorem afb (x:Order):(bQ x).cells=[str x.name,.bool x.accepts,choices x.choices,rules x.rules]:=_root_.id rfl
@[simp] theorem aiH (x:Order):D.agg [str x.name,.bool x.accepts,choices x.choices,rules x.rules]=bQ x:=_root_.id rfl
@[simp] theorem agf (x:Order):v9 4 (bQ x)=bQ x:=_root_.id rfl
@[simp] theorem ahi (x:Order):(bQ x).c 0=str x.name:=_root_.id rfl
@[simp] theorem ahf (x:Order):(bQ x).c 1=.bool x.accepts:=_root_.id rfl
@[simp] theorem aiB (x:Order):(bQ x).c 2=choices x.choices:=_root_.id rfl
@[simp] theorem air (x:Order):(bQ x).c 3=rules x.rules:=_root_.id rfl
def orders (l:List Order):D:=.list (l.map bQ)
@[simp] theorem ahp (l:List Order):(orders l).l=l.map bQ:=_root_.id rfl
abbrev Uu:Ty:=.agg [.str,.bool,.slice QU,.slice Yw]
def Order.OK (x:Order):Prop:=(x.choices.length≤maxLen∧∀y,y∈x.choices→Choice.OK y)∧(x.rules.length≤maxLen∧∀y,y∈x.rules→Rule.OK y)
theorem abj {d:D}(h:DTy Uu d):∃x:Order,d=bQ x∧x.OK:=by
 obtain⟨ds,rfl,hs⟩:=h.agg_inv
 obtain⟨d0,ds,rfl,h0,hs⟩:=hs.cons_inv
 obtain⟨d1,ds,rfl,h1,hs⟩:=hs.cons_inv
 obtain⟨d2,ds,rfl,h2,hs⟩:=hs.cons_inv
 obtain⟨d3,ds,rfl,h3,hs⟩:=hs.cons_inv
 obtain rfl:=hs.nil_inv
 obtain⟨n0,rfl⟩:=str_inv h0
 obtain⟨n1,rfl⟩:=h1.bool_inv
 obtain⟨n2,rfl,b2,c2⟩:=V1 h2
 obtain⟨n3,rfl,b3,c3⟩:=abK h3
 exact⟨⟨n0,n1,n2,n3⟩,rfl,⟨⟨b2,c2⟩,⟨b3,c3⟩⟩⟩
theorem Yc {d:D}(h:DTy (.slice Uu) d):∃l:List Order,d=orders l∧l.length≤maxLen∧∀y,y∈l→Order.OK y:=by
 obtain⟨xs,rfl,hm,hx⟩:=h.slice_inv
 obtain⟨l,rfl,hl⟩:=cn (enc:=bQ) (P:=Order.OK) fun x hh=>abj (hx x hh)
 exact⟨l,rfl,by simpa using hm,hl⟩
structure Realm where
 currencies:List ByteArray
 cities:List City
 groups:List Group
 firms:List Firm
 orders:List Order
 usances:List Usance
 rates:List Rate
 halts:List Halt
 deriving Inhabited
def au (x:Realm):D:=.agg [strs x.currencies,ya x.cities,groups x.groups,firms x.firms,orders x.orders,usances x.usances,rates x.rates,halts x.halts]
@[simp] theorem afs (x:Realm):(au x).cells=[strs x.currencies,ya x.cities,groups x.groups,firms x.firms,orders x.orders,usances x.usances,rates x.rates,halts x.halts]:=_root_.id rfl
@[simp] theorem ain (x:Realm):D.agg [strs x.currencies,ya x.cities,groups x.groups,firms x.firms,orders x.orders,usances x.usances,rates x.rates,halts x.halts]=au x:=_root_.id rfl
@[simp] theorem afI (x:Realm):v9 8 (au x)=au x:=_root_.id rfl
@[simp] theorem afE (x:Realm)(a0 a1 a2 a3 a4 a5 a6 a7:D):D.agg (aX [a0,a1,a2,a3,a4,a5,a6,a7] 0 [strs x.currencies,ya x.cities,groups x.groups,firms x.firms,orders x.orders,usances x.usances,rates x.rates,halts x.halts])=au x:=_root_.id rfl
@[simp] theorem ahv (x:Realm):(au x).c 0=strs x.currencies:=_root_.id rfl
@[simp] theorem ahy (x:Realm):(au x).c 1=ya x.cities:=_root_.id rfl
@[simp] theorem aie (x:Realm):(au x).c 2=groups x.groups:=_root_.id rfl
@[simp] theorem ahO (x:Realm):(au x).c 3=firms x.firms:=_root_.id rfl
@[simp] theorem ahb (x:Realm):(au x).c 4=orders x.orders:=_root_.id rfl
@[simp] theorem ah9 (x:Realm):(au x).c 5=usances x.usances:=_root_.id rfl
@[simp] theorem ahL (x:Realm):(au x).c 6=rates x.rates:=_root_.id rfl
@[simp] theorem ah5 (x:Realm):(au x).c 7=halts x.halts:=_root_.id rfl
abbrev aet:Ty:=.agg [.slice .str,.slice YB,.slice Vg,.slice Ym,.slice Uu,.slice P6,.slice Yq,.slice YT]
def Realm.OK (x:Realm):Prop:=x.currencies.length≤maxLen∧(x.cities.length≤maxLen∧∀y,y∈x.cities→City.OK y)∧(x.groups.length≤maxLen∧∀y,y∈x.groups→Group.OK y)∧(x.firms.length≤maxLen∧∀y,y∈x.firms→Firm.OK y)∧(x.orders.length≤maxLen∧∀y,y∈x.orders→Order.OK y)∧(x.usances.length≤maxLen∧∀y,y∈x.usances→Usance.OK y)∧(x.rates.length≤maxLen∧∀y,y∈x.rates→Rate.OK y)∧(x.halts.length≤maxLen∧∀y,y∈x.halts→Halt.OK y)
theorem abF {d:D}(h:DTy aet d):∃x:Realm,d=au x∧x.OK:=by
 obtain⟨ds,rfl,hs⟩:=h.agg_inv
 obtain⟨d0,ds,rfl,h0,hs⟩:=hs.cons_inv
 obtain⟨d1,ds,rfl,h1,hs⟩:=hs.cons_inv
 obtain⟨d2,ds,rfl,h2,hs⟩:=hs.cons_inv
 obtain⟨d3,ds,rfl,h3,hs⟩:=hs.cons_inv
 obtain⟨d4,ds,rfl,h4,hs⟩:=hs.cons_inv
 obtain⟨d5,ds,rfl,h5,hs⟩:=hs.cons_inv
 obtain⟨d6,ds,rfl,h6,hs⟩:=hs.cons_inv
 obtain⟨d7,ds,rfl,h7,hs⟩:=hs.cons_inv
 obtain rfl:=hs.nil_inv
 obtain⟨n0,rfl,b0⟩:=adn h0
 obtain⟨n1,rfl,b1,c1⟩:=aaS h1
 obtain⟨n2,rfl,b2,c2⟩:=Zl h2
 obtain⟨n3,rfl,b3,c3⟩:=abx h3
 obtain⟨n4,rfl,b4,c4⟩:=Yc h4
 obtain⟨n5,rfl,b5,c5⟩:=Wg h5
 obtain⟨n6,rfl,b6,c6⟩:=aaV h6
 obtain⟨n7,rfl,b7,c7⟩:=aaL h7
 exact⟨⟨n0,n1,n2,n3,n4,n5,n6,n7⟩,rfl,⟨b0,⟨b1,c1⟩,⟨b2,c2⟩,⟨b3,c3⟩,⟨b4,c4⟩,⟨b5,c5⟩,⟨b6,c6⟩,⟨b7,c7⟩⟩⟩
structure Tenor where
 kind:Int
 n:Int
 unit:Int
 deriving DecidableEq,Inhabited
def jU (x:Tenor):D:=.agg [.int x.kind,.int x.n,.int x.unit]
@[simp] theorem aeO (x:Tenor):(jU x).cells=[.int x.kind,.int x.n,.int x.unit]:=_root_.id rfl
@[simp] theorem aiN (x:Tenor):D.agg [.int x.kind,.int x.n,.int x.unit]=jU x:=_root_.id rfl
@[simp] theorem ahG (x:Tenor):(jU x).c 0=.int x.kind:=_root_.id rfl
@[simp] theorem ahn (x:Tenor):(jU x).c 1=.int x.n:=_root_.id rfl
@[simp] theorem ahJ (x:Tenor):(jU x).c 2=.int x.unit:=_root_.id rfl
def Tenor.OK (x:Tenor):Prop:=I64 x.kind∧I64 x.n∧I64 x.unit
structure Bill where
 drawer:Int
 drawee:Int
 payee:Int
 sum:Int
 currency:Int
 tenor:Tenor
 day:Int
 city:Int
 pay:Int
 need:Int
 rate:Int
 flags:Int
 parts:Int
 deriving DecidableEq,Inhabited
def aT (x:Bill):D:=.agg [.int x.drawer,.int x.drawee,.int x.payee,.int x.sum,.int x.currency,.int x.tenor.kind,.int x.tenor.n,.int x.tenor.unit,.int x.day,.int x.city,.int x.pay,.int x.need,.int x.rate,.int x.flags,.int x.parts]
@[simp] theorem afR (x:Bill):(aT x).cells=[.int x.drawer,.int x.drawee,.int x.payee,.int x.sum,.int x.currency,.int x.tenor.kind,.int x.tenor.n,.int x.tenor.unit,.int x.day,.int x.city,.int x.pay,.int x.need,.int x.rate,.int x.flags,.int x.parts]:=_root_.id rfl
@[simp] theorem akz (x:Bill):D.agg [.int x.drawer,.int x.drawee,.int x.payee,.int x.sum,.int x.currency,.int x.tenor.kind,.int x.tenor.n,.int x.tenor.unit,.int x.day,.int x.city,.int x.pay,.int x.need,.int x.rate,.int x.flags,.int x.parts]=aT x:=_root_.id rfl
@[simp] theorem agC (x:Bill):v9 15 (aT x)=aT x:=_root_.id rfl
@[simp] theorem agM (x:Bill)(a0 a1 a2 a3 a4 a5 a6 a7 a8 a9 a10 a11 a12 a13 a14:D):D.agg (aX [a0,a1,a2,a3,a4,a5,a6,a7,a8,a9,a10,a11,a12,a13,a14] 0 [.int x.drawer,.int x.drawee,.int x.payee,.int x.sum,.int x.currency,.int x.tenor.kind,.int x.tenor.n,.int x.tenor.unit,.int x.day,.int x.city,.int x.pay,.int x.need,.int x.rate,.int x.flags,.int x.parts])=aT x:=_root_.id rfl
@[simp] theorem aja (x:Bill):(aT x).c 0=.int x.drawer:=_root_.id rfl
@[simp] theorem ajy (x:Bill):(aT x).c 1=.int x.drawee:=_root_.id rfl
@[simp] theorem ajF (x:Bill):(aT x).c 2=.int x.payee:=_root_.id rfl
@[simp] theorem akk (x:Bill):(aT x).c 3=.int x.sum:=_root_.id rfl
@[simp] theorem ajw (x:Bill):(aT x).c 4=.int x.currency:=_root_.id rfl
@[simp] theorem ajQ (x:Bill):(aT x).c 5=.int x.tenor.kind:=_root_.id rfl
@[simp] theorem ai0 (x:Bill):(aT x).c 6=.int x.tenor.n:=_root_.id rfl
@[simp] theorem akh (x:Bill):(aT x).c 7=.int x.tenor.unit:=_root_.id rfl
@[simp] theorem ajc (x:Bill):(aT x).c 8=.int x.day:=_root_.id rfl
@[simp] theorem ajr (x:Bill):(aT x).c 9=.int x.city:=_root_.id rfl
@[simp] theorem ahh (x:Bill):(aT x).c 10=.int x.pay:=_root_.id rfl
@[simp] theorem aiy (x:Bill):(aT x).c 11=.int x.need:=_root_.id rfl
@[simp] theorem ahU (x:Bill):(aT x).c 12=.int x.rate:=_root_.id rfl
@[simp] theorem aip (x:Bill):(aT x).c 13=.int x.flags:=_root_.id rfl
@[simp] theorem ahP (x:Bill):(aT x).c 14=.int x.parts:=_root_.id rfl
def Bill.OK (x:Bill):Prop:=I64 x.drawer∧I64 x.drawee∧I64 x.payee∧I64 x.sum∧I64 x.currency∧Tenor.OK x.tenor∧I64 x.day∧I64 x.city∧I64 x.pay∧I64 x.need∧I64 x.rate∧I64 x.flags∧I64 x.parts
structure Sign where
 kind:Int
 part:Int
 who:Int
 for_:Int
 to:Int
 sum:Int
 day:Int
 city:Int
 flags:Int
 deriving DecidableEq,Inhabited
def dT (x:Sign):D:=.agg [.int x.kind,.int x.part,.int x.who,.int x.for_,.int x.to,.int x.sum,.int x.day,.int x.city,.int x.flags]
@[simp] theorem afZ (x:Sign):(dT x).cells=[.int x.kind,.int x.part,.int x.who,.int x.for_,.int x.to,.int x.sum,.int x.day,.int x.city,.int x.flags]:=_root_.id rfl
@[simp] theorem ajT (x:Sign):D.agg [.int x.kind,.int x.part,.int x.who,.int x.for_,.int x.to,.int x.sum,.int x.day,.int x.city,.int x.flags]=dT x:=_root_.id rfl
@[simp] theorem ags (x:Sign):v9 9 (dT x)=dT x:=_root_.id rfl
@[simp] theorem akq (x:Sign):(dT x).c 0=.int x.kind:=_root_.id rfl
@[simp] theorem aiV (x:Sign):(dT x).c 1=.int x.part:=_root_.id rfl
@[simp] theorem ajz (x:Sign):(dT x).c 2=.int x.who:=_root_.id rfl
@[simp] theorem ajX (x:Sign):(dT x).c 3=.int x.for_:=_root_.id rfl
@[simp] theorem aj8 (x:Sign):(dT x).c 4=.int x.to:=_root_.id rfl
@[simp] theorem akj (x:Sign):(dT x).c 5=.int x.sum:=_root_.id rfl
@[simp] theorem akv (x:Sign):(dT x).c 6=.int x.day:=_root_.id rfl
@[simp] theorem akr (x:Sign):(dT x).c 7=.int x.city:=_root_.id rfl
@[simp] theorem aj6 (x:Sign):(dT x).c 8=.int x.flags:=_root_.id rfl
def signs (l:List Sign):D:=.list (l.map dT)
@[simp] theorem aju (l:List Sign):(signs l).l=l.map dT:=_root_.id rfl
@[simp] theorem afj (l:List Sign):(signs l).cells=[signs l]:=_root_.id rfl
abbrev XS:Ty:=.agg [.int .i64,.int .i64,.int .i64,.int .i64,.int .i64,.int .i64,.int .i64,.int .i64,.int .i64]
def Sign.OK (x:Sign):Prop:=I64 x.kind∧I64 x.part∧I64 x.who∧I64 x.for_∧I64 x.to∧I64 x.sum∧I64 x.day∧I64 x.city∧I64 x.flags
theorem adi {d:D}(h:DTy XS d):∃x:Sign,d=dT x∧x.OK:=by
 obtain⟨ds,rfl,hs⟩:=h.agg_inv
 obtain⟨d0,ds,rfl,h0,hs⟩:=hs.cons_inv
 obtain⟨d1,ds,rfl,h1,hs⟩:=hs.cons_inv
 obtain⟨d2,ds,rfl,h2,hs⟩:=hs.cons_inv
 obtain⟨d3,ds,rfl,h3,hs⟩:=hs.cons_inv
 obtain⟨d4,ds,rfl,h4,hs⟩:=hs.cons_inv
 obtain⟨d5,ds,rfl,h5,hs⟩:=hs.cons_inv
 obtain⟨d6,ds,rfl,h6,hs⟩:=hs.cons_inv
 obtain⟨d7,ds,rfl,h7,hs⟩:=hs.cons_inv
 obtain⟨d8,ds,rfl,h8,hs⟩:=hs.cons_inv
 obtain rfl:=hs.nil_inv
 obtain⟨n0,rfl,b0⟩:=h0.i64_inv
 obtain⟨n1,rfl,b1⟩:=h1.i64_inv
 obtain⟨n2,rfl,b2⟩:=h2.i64_inv
 obtain⟨n3,rfl,b3⟩:=h3.i64_inv
 obtain⟨n4,rfl,b4⟩:=h4.i64_inv
 obtain⟨n5,rfl,b5⟩:=h5.i64_inv
 obtain⟨n6,rfl,b6⟩:=h6.i64_inv
 obtain⟨n7,rfl,b7⟩:=h7.i64_inv
 obtain⟨n8,rfl,b8⟩:=h8.i64_inv
 exact⟨⟨n0,n1,n2,n3,n4,n5,n6,n7,n8⟩,rfl,⟨b0,b1,b2,b3,b4,b5,b6,b7,b8⟩⟩
theorem aaI {d:D}(h:DTy (.slice XS) d):∃l:List Sign,d=signs l∧l.length≤maxLen∧∀y,y∈l→Sign.OK y:=by
 obtain⟨xs,rfl,hm,hx⟩:=h.slice_inv
 obtain⟨l,rfl,hl⟩:=cn (enc:=dT) (P:=Sign.OK) fun x hh=>adi (hx x hh)
 exact⟨l,rfl,by simpa using hm,hl⟩
structure Alter where
 at_:Int
 sum:Int
 deriving DecidableEq,Inhabited
def gP (x:Alter):D:=.agg [.int x.at_,.int x.sum]
@[simp] theorem aeM (x:Alter):(gP x).cells=[.int x.at_,.int x.sum]:=_root_.id rfl
@[simp] theorem ahH (x:Alter):D.agg [.int x.at_,.int x.sum]=gP x:=_root_.id rfl
@[simp] theorem ahN (x:Alter):(gP x).c 0=.int x.at_:=_root_.id rfl
@[simp] theorem aiK (x:Alter):(gP x).c 1=.int x.sum:=_root_.id rfl
def alters (l:List Alter):D:=.list (l.map gP)
@[simp] theorem aiU (l:List Alter):(alters l).l=l.map gP:=_root_.id rfl
@[simp] theorem adZ (l:List Alter):(alters l).cells=[alters l]:=_root_.id rfl
abbrev Ue:Ty:=.agg [.int .i64,.int .i64]
def Alter.OK (x:Alter):Prop:=I64 x.at_∧I64 x.sum
theorem abn {d:D}(h:DTy Ue d):∃x:Alter,d=gP x∧x.OK:=by
 obtain⟨ds,rfl,hs⟩:=h.agg_inv
 obtain⟨d0,ds,rfl,h0,hs⟩:=hs.cons_inv
 obtain⟨d1,ds,rfl,h1,hs⟩:=hs.cons_inv
 obtain rfl:=hs.nil_inv
 obtain⟨n0,rfl,b0⟩:=h0.i64_inv
 obtain⟨n1,rfl,b1⟩:=h1.i64_inv
 exact⟨⟨n0,n1⟩,rfl,⟨b0,b1⟩⟩
theorem Za {d:D}(h:DTy (.slice Ue) d):∃l:List Alter,d=alters l∧l.length≤maxLen∧∀y,y∈l→Alter.OK y:=by
 obtain⟨xs,rfl,hm,hx⟩:=h.slice_inv
 obtain⟨l,rfl,hl⟩:=cn (enc:=gP) (P:=Alter.OK) fun x hh=>abn (hx x hh)
 exact⟨l,rfl,by simpa using hm,hl⟩
structure Act where
 kind:Int
 who:Int
 to:Int
 part:Int
 at_:Int
 sum:Int
 day:Int
 city:Int
 form:Int
 deriving DecidableEq,Inhabited
def gj (x:Act):D:=.agg [.int x.kind,.int x.who,.int x.to,.int x.part,.int x.at_,.int x.sum,.int x.day,.int x.city,.int x.form]
@[simp] theorem agS (x:Act):(gj x).cells=[.int x.kind,.int x.who,.int x.to,.int x.part,.int x.at_,.int x.sum,.int x.day,.int x.city,.int x.form]:=_root_.id rfl
@[simp] theorem ala (x:Act):D.agg [.int x.kind,.int x.who,.int x.to,.int x.part,.int x.at_,.int x.sum,.int x.day,.int x.city,.int x.form]=gj x:=_root_.id rfl
@[simp] theorem aim (x:Act):v9 9 (gj x)=gj x:=_root_.id rfl
@[simp] theorem alh (x:Act):(gj x).c 0=.int x.kind:=_root_.id rfl
@[simp] theorem ak2 (x:Act):(gj x).c 1=.int x.who:=_root_.id rfl
@[simp] theorem alw (x:Act):(gj x).c 2=.int x.to:=_root_.id rfl
@[simp] theorem akY (x:Act):(gj x).c 3=.int x.part:=_root_.id rfl
@[simp] theorem akP (x:Act):(gj x).c 4=.int x.at_:=_root_.id rfl
@[simp] theorem ald (x:Act):(gj x).c 5=.int x.sum:=_root_.id rfl
@[simp] theorem akJ (x:Act):(gj x).c 6=.int x.day:=_root_.id rfl
@[simp] theorem akL (x:Act):(gj x).c 7=.int x.city:=_root_.id rfl
@[simp] theorem akE (x:Act):(gj x).c 8=.int x.form:=_root_.id rfl
def acts (l:List Act):D:=.list (l.map gj)
@[simp] theorem alf (l:List Act):(acts l).l=l.map gj:=_root_.id rfl
@[simp] theorem afW (l:List Act):(acts l).cells=[acts l]:=_root_.id rfl
abbrev adJ:Ty:=.agg [.int .i64,.int .i64,.int .i64,.int .i64,.int .i64,.int .i64,.int .i64,.int .i64,.int .i64]
def Act.OK (x:Act):Prop:=I64 x.kind∧I64 x.who∧I64 x.to∧I64 x.part∧I64 x.at_∧I64 x.sum∧I64 x.day∧I64 x.city∧I64 x.form
theorem aei {d:D}(h:DTy adJ d):∃x:Act,d=gj x∧x.OK:=by
 obtain⟨ds,rfl,hs⟩:=h.agg_inv
 obtain⟨d0,ds,rfl,h0,hs⟩:=hs.cons_inv
 obtain⟨d1,ds,rfl,h1,hs⟩:=hs.cons_inv
 obtain⟨d2,ds,rfl,h2,hs⟩:=hs.cons_inv
 obtain⟨d3,ds,rfl,h3,hs⟩:=hs.cons_inv
 obtain⟨d4,ds,rfl,h4,hs⟩:=hs.cons_inv
 obtain⟨d5,ds,rfl,h5,hs⟩:=hs.cons_inv
 obtain⟨d6,ds,rfl,h6,hs⟩:=hs.cons_inv
 obtain⟨d7,ds,rfl,h7,hs⟩:=hs.cons_inv
 obtain⟨d8,ds,rfl,h8,hs⟩:=hs.cons_inv
 obtain rfl:=hs.nil_inv
 obtain⟨n0,rfl,b0⟩:=h0.i64_inv
 obtain⟨n1,rfl,b1⟩:=h1.i64_inv
 obtain⟨n2,rfl,b2⟩:=h2.i64_inv
 obtain⟨n3,rfl,b3⟩:=h3.i64_inv
 obtain⟨n4,rfl,b4⟩:=h4.i64_inv
 obtain⟨n5,rfl,b5⟩:=h5.i64_inv
 obtain⟨n6,rfl,b6⟩:=h6.i64_inv
 obtain⟨n7,rfl,b7⟩:=h7.i64_inv
 obtain⟨n8,rfl,b8⟩:=h8.i64_inv
 exact⟨⟨n0,n1,n2,n3,n4,n5,n6,n7,n8⟩,rfl,⟨b0,b1,b2,b3,b4,b5,b6,b7,b8⟩⟩
theorem ace {d:D}(h:DTy (.slice adJ) d):∃l:List Act,d=acts l∧l.length≤maxLen∧∀y,y∈l→Act.OK y:=by
 obtain⟨xs,rfl,hm,hx⟩:=h.slice_inv
 obtain⟨l,rfl,hl⟩:=cn (enc:=gj) (P:=Act.OK) fun x hh=>aei (hx x hh)
 exact⟨l,rfl,by simpa using hm,hl⟩
structure Fact where
 kind:Int
 at_:Int
 n:Int
 deriving DecidableEq,Inhabited
def om (x:Fact):D:=.agg [.int x.kind,.int x.at_,.int x.n]
@[simp] theorem af9 (x:Fact):(om x).cells=[.int x.kind,.int x.at_,.int x.n]:=_root_.id rfl
@[simp] theorem akn (x:Fact):D.agg [.int x.kind,.int x.at_,.int x.n]=om x:=_root_.id rfl
@[simp] theorem ai2 (x:Fact):(om x).c 0=.int x.kind:=_root_.id rfl
@[simp] theorem aj0 (x:Fact):(om x).c 1=.int x.at_:=_root_.id rfl
@[simp] theorem ajm (x:Fact):(om x).c 2=.int x.n:=_root_.id rfl
def facts (l:List Fact):D:=.list (l.map om)
@[simp] theorem ako (l:List Fact):(facts l).l=l.map om:=_root_.id rfl
@[simp] theorem afl (l:List Fact):(facts l).cells=[facts l]:=_root_.id rfl
abbrev Yp:Ty:=.agg [.int .i64,.int .i64,.int .i64]
def Fact.OK (x:Fact):Prop:=I64 x.kind∧I64 x.at_∧I64 x.n
theorem ab5 {d:D}(h:DTy Yp d):∃x:Fact,d=om x∧x.OK:=by
 obtain⟨ds,rfl,hs⟩:=h.agg_inv
 obtain⟨d0,ds,rfl,h0,hs⟩:=hs.cons_inv
 obtain⟨d1,ds,rfl,h1,hs⟩:=hs.cons_inv
 obtain⟨d2,ds,rfl,h2,hs⟩:=hs.cons_inv
 obtain rfl:=hs.nil_inv
 obtain⟨n0,rfl,b0⟩:=h0.i64_inv
 obtain⟨n1,rfl,b1⟩:=h1.i64_inv
 obtain⟨n2,rfl,b2⟩:=h2.i64_inv
 exact⟨⟨n0,n1,n2⟩,rfl,⟨b0,b1,b2⟩⟩
theorem SW {d:D}(h:DTy (.slice Yp) d):∃l:List Fact,d=facts l∧l.length≤maxLen∧∀y,y∈l→Fact.OK y:=by
 obtain⟨xs,rfl,hm,hx⟩:=h.slice_inv
 obtain⟨l,rfl,hl⟩:=cn (enc:=om) (P:=Fact.OK) fun x hh=>ab5 (hx x hh)
 exact⟨l,rfl,by simpa using hm,hl⟩
structure File where
 bill:Bill
 signs:List Sign
 alters:List Alter
 acts:List Act
 facts:List Fact
 deriving Inhabited
def aD (x:File):D:=.agg [.int x.bill.drawer,.int x.bill.drawee,.int x.bill.payee,.int x.bill.sum,.int x.bill.currency,.int x.bill.tenor.kind,.int x.bill.tenor.n,.int x.bill.tenor.unit,.int x.bill.day,.int x.bill.city,.int x.bill.pay,.int x.bill.need,.int x.bill.rate,.int x.bill.flags,.int x.bill.parts,signs x.signs,alters x.alters,acts x.acts,facts x.facts]
@[simp] theorem af8 (x:File):(aD x).cells=[.int x.bill.drawer,.int x.bill.drawee,.int x.bill.payee,.int x.bill.sum,.int x.bill.currency,.int x.bill.tenor.kind,.int x.bill.tenor.n,.int x.bill.tenor.unit,.int x.bill.day,.int x.bill.city,.int x.bill.pay,.int x.bill.need,.int x.bill.rate,.int x.bill.flags,.int x.bill.parts,signs x.signs,alters x.alters,acts x.acts,facts x.facts]:=_root_.id rfl
@[simp] theorem aj2 (x:File):D.agg [.int x.bill.drawer,.int x.bill.drawee,.int x.bill.payee,.int x.bill.sum,.int x.bill.currency,.int x.bill.tenor.kind,.int x.bill.tenor.n,.int x.bill.tenor.unit,.int x.bill.day,.int x.bill.city,.int x.bill.pay,.int x.bill.need,.int x.bill.rate,.int x.bill.flags,.int x.bill.parts,signs x.signs,alters x.alters,acts x.acts,facts x.facts]=aD x:=_root_.id rfl
@[simp] theorem agB (x:File):v9 19 (aD x)=aD x:=_root_.id rfl
@[simp] theorem agY (x:File)(a0 a1 a2 a3 a4 a5 a6 a7 a8 a9 a10 a11 a12 a13 a14 a15 a16 a17 a18:D):D.agg (aX [a0,a1,a2,a3,a4,a5,a6,a7,a8,a9,a10,a11,a12,a13,a14,a15,a16,a17,a18] 0 [.int x.bill.drawer,.int x.bill.drawee,.int x.bill.payee,.int x.bill.sum,.int x.bill.currency,.int x.bill.tenor.kind,.int x.bill.tenor.n,.int x.bill.tenor.unit,.int x.bill.day,.int x.bill.city,.int x.bill.pay,.int x.bill.need,.int x.bill.rate,.int x.bill.flags,.int x.bill.parts,signs x.signs,alters x.alters,acts x.acts,facts x.facts])=aD x:=_root_.id rfl
@[simp] theorem akd (x:File):(aD x).c 0=.int x.bill.drawer:=_root_.id rfl
@[simp] theorem ajx (x:File):(aD x).c 1=.int x.bill.drawee:=_root_.id rfl
@[simp] theorem akx (x:File):(aD x).c 3=.int x.bill.sum:=_root_.id rfl
@[simp] theorem ajl (x:File):(aD x).c 5=.int x.bill.tenor.kind:=_root_.id rfl
@[simp] theorem ajH (x:File):(aD x).c 8=.int x.bill.day:=_root_.id rfl
@[simp] theorem ajs (x:File):(aD x).c 9=.int x.bill.city:=_root_.id rfl
@[simp] theorem ahk (x:File):(aD x).c 14=.int x.bill.parts:=_root_.id rfl
@[simp] theorem ahI (x:File):(aD x).c 15=signs x.signs:=_root_.id rfl
@[simp] theorem aia (x:File):(aD x).c 16=alters x.alters:=_root_.id rfl
@[simp] theorem aht (x:File):(aD x).c 17=acts x.acts:=_root_.id rfl
@[simp] theorem aiz (x:File):(aD x).c 18=facts x.facts:=_root_.id rfl
abbrev afB:Ty:=.agg [.int .i64,.int .i64,.int .i64,.int .i64,.int .i64,.int .i64,.int .i64,.int .i64,.int .i64,.int .i64,.int .i64,.int .i64,.int .i64,.int .i64,.int .i64,.slice XS,.slice Ue,.slice adJ,.slice Yp]
def File.OK (x:File):Prop:=Bill.OK x.bill∧(x.signs.length≤maxLen∧∀y,y∈x.signs→Sign.OK y)∧(x.alters.length≤maxLen∧∀y,y∈x.alters→Alter.OK y)∧(x.acts.length≤maxLen∧∀y,y∈x.acts→Act.OK y)∧(x.facts.length≤maxLen∧∀y,y∈x.facts→Fact.OK y)
theorem acb {d:D}(h:DTy afB d):∃x:File,d=aD x∧x.OK:=by
 obtain⟨ds,rfl,hs⟩:=h.agg_inv
 obtain⟨d0,ds,rfl,h0,hs⟩:=hs.cons_inv
 obtain⟨d1,ds,rfl,h1,hs⟩:=hs.cons_inv
 obtain⟨d2,ds,rfl,h2,hs⟩:=hs.cons_inv
 obtain⟨d3,ds,rfl,h3,hs⟩:=hs.cons_inv
 obtain⟨d4,ds,rfl,h4,hs⟩:=hs.cons_inv
 obtain⟨d5,ds,rfl,h5,hs⟩:=hs.cons_inv
 obtain⟨d6,ds,rfl,h6,hs⟩:=hs.cons_inv
 obtain⟨d7,ds,rfl,h7,hs⟩:=hs.cons_inv
 obtain⟨d8,ds,rfl,h8,hs⟩:=hs.cons_inv
 obtain⟨d9,ds,rfl,h9,hs⟩:=hs.cons_inv
 obtain⟨d10,ds,rfl,h10,hs⟩:=hs.cons_inv
 obtain⟨d11,ds,rfl,h11,hs⟩:=hs.cons_inv
 obtain⟨d12,ds,rfl,h12,hs⟩:=hs.cons_inv
 obtain⟨d13,ds,rfl,h13,hs⟩:=hs.cons_inv
 obtain⟨d14,ds,rfl,h14,hs⟩:=hs.cons_inv
 obtain⟨d15,ds,rfl,h15,hs⟩:=hs.cons_inv
 obtain⟨d16,ds,rfl,h16,hs⟩:=hs.cons_inv
 obtain⟨d17,ds,rfl,h17,hs⟩:=hs.cons_inv
 obtain⟨d18,ds,rfl,h18,hs⟩:=hs.cons_inv
 obtain rfl:=hs.nil_inv
 obtain⟨n0,rfl,b0⟩:=h0.i64_inv
 obtain⟨n1,rfl,b1⟩:=h1.i64_inv
 obtain⟨n2,rfl,b2⟩:=h2.i64_inv
 obtain⟨n3,rfl,b3⟩:=h3.i64_inv
 obtain⟨n4,rfl,b4⟩:=h4.i64_inv
 obtain⟨n5,rfl,b5⟩:=h5.i64_inv
 obtain⟨n6,rfl,b6⟩:=h6.i64_inv
 obtain⟨n7,rfl,b7⟩:=h7.i64_inv
 obtain⟨n8,rfl,b8⟩:=h8.i64_inv
 obtain⟨n9,rfl,b9⟩:=h9.i64_inv
 obtain⟨n10,rfl,b10⟩:=h10.i64_inv
 obtain⟨n11,rfl,b11⟩:=h11.i64_inv
 obtain⟨n12,rfl,b12⟩:=h12.i64_inv
 obtain⟨n13,rfl,b13⟩:=h13.i64_inv
 obtain⟨n14,rfl,b14⟩:=h14.i64_inv
 obtain⟨n15,rfl,b15,c15⟩:=aaI h15
 obtain⟨n16,rfl,b16,c16⟩:=Za h16
 obtain⟨n17,rfl,b17,c17⟩:=ace h17
 obtain⟨n18,rfl,b18,c18⟩:=SW h18
 exact⟨⟨⟨n0,n1,n2,n3,n4,⟨n5,n6,n7⟩,n8,n9,n10,n11,n12,n13,n14⟩,n15,n16,n17,n18⟩,rfl,⟨⟨b0,b1,b2,b3,b4,⟨b5,b6,b7⟩,b8,b9,b10,b11,b12,b13,b14⟩,⟨b15,c15⟩,⟨b16,c16⟩,⟨b17,c17⟩,⟨b18,c18⟩⟩⟩
structure Case where
 file:File
 sign:Int
 holder:Int
 defence:Int
 due:Int
 day:Int
 deriving Inhabited
def bq (x:Case):D:=.agg [.int x.file.bill.drawer,.int x.file.bill.drawee,.int x.file.bill.payee,.int x.file.bill.sum,.int x.file.bill.currency,.int x.file.bill.tenor.kind,.int x.file.bill.tenor.n,.int x.file.bill.tenor.unit,.int x.file.bill.day,.int x.file.bill.city,.int x.file.bill.pay,.int x.file.bill.need,.int x.file.bill.rate,.int x.file.bill.flags,.int x.file.bill.parts,signs x.file.signs,alters x.file.alters,acts x.file.acts,facts x.file.facts,.int x.sign,.int x.holder,.int x.defence,.int x.due,.int x.day]
@[simp] theorem afK (x:Case):(bq x).cells=[.int x.file.bill.drawer,.int x.file.bill.drawee,.int x.file.bill.payee,.int x.file.bill.sum,.int x.file.bill.currency,.int x.file.bill.tenor.kind,.int x.file.bill.tenor.n,.int x.file.bill.tenor.unit,.int x.file.bill.day,.int x.file.bill.city,.int x.file.bill.pay,.int x.file.bill.need,.int x.file.bill.rate,.int x.file.bill.flags,.int x.file.bill.parts,signs x.file.signs,alters x.file.alters,acts x.file.acts,facts x.file.facts,.int x.sign,.int x.holder,.int x.defence,.int x.due,.int x.day]:=_root_.id rfl
@[simp] theorem ai7 (x:Case):D.agg [.int x.file.bill.drawer,.int x.file.bill.drawee,.int x.file.bill.payee,.int x.file.bill.sum,.int x.file.bill.currency,.int x.file.bill.tenor.kind,.int x.file.bill.tenor.n,.int x.file.bill.tenor.unit,.int x.file.bill.day,.int x.file.bill.city,.int x.file.bill.pay,.int x.file.bill.need,.int x.file.bill.rate,.int x.file.bill.flags,.int x.file.bill.parts,signs x.file.signs,alters x.file.alters,acts x.file.acts,facts x.file.facts,.int x.sign,.int x.holder,.int x.defence,.int x.due,.int x.day]=bq x:=_root_.id rfl
@[simp] theorem aa2 (x:Case):v9 24 (bq x)=bq x:=_root_.id rfl
@[simp] theorem abk (x:Case)(a0 a1 a2 a3 a4 a5 a6 a7 a8 a9 a10 a11 a12 a13 a14 a15 a16 a17 a18 a19 a20 a21 a22 a23:D):D.agg (aX [a0,a1,a2,a3,a4,a5,a6,a7,a8,a9,a10,a11,a12,a13,a14,a15,a16,a17,a18,a19,a20,a21,a22,a23] 0 [.int x.file.bill.drawer,.int x.file.bill.drawee,.int x.file.bill.payee,.int x.file.bill.sum,.int x.file.bill.currency,.int x.file.bill.tenor.kind,.int x.file.bill.tenor.n,.int x.file.bill.tenor.unit,.int x.file.bill.day,.int x.file.bill.city,.int x.file.bill.pay,.int x.file.bill.need,.int x.file.bill.rate,.int x.file.bill.flags,.int x.file.bill.parts,signs x.file.signs,alters x.file.alters,acts x.file.acts,facts x.file.facts,.int x.sign,.int x.holder,.int x.defence,.int x.due,.int x.day])=bq x:=_root_.id rfl
@[simp] theorem akf (x:Case):(bq x).c 9=.int x.file.bill.city:=_root_.id rfl
@[simp] theorem ahr (x:Case):(bq x).c 10=.int x.file.bill.pay:=_root_.id rfl
@[simp] theorem aiF (x:Case):(bq x).c 15=signs x.file.signs:=_root_.id rfl
@[simp] theorem aiO (x:Case):(bq x).c 19=.int x.sign:=_root_.id rfl
@[simp] theorem ahC (x:Case):(bq x).c 20=.int x.holder:=_root_.id rfl
@[simp] theorem ahq (x:Case):(bq x).c 21=.int x.defence:=_root_.id rfl
@[simp] theorem aiu (x:Case):(bq x).c 22=.int x.due:=_root_.id rfl
@[simp] theorem aiQ (x:Case):(bq x).c 23=.int x.day:=_root_.id rfl
def cases(l:List Case):D:=.list (l.map bq)
structure Cell where
 known:Bool
 n:Int
 deriving DecidableEq,Inhabited
def aI (x:Cell):D:=.agg [.bool x.known,.int x.n]
@[simp] theorem af6 (x:Cell):(aI x).cells=[.bool x.known,.int x.n]:=_root_.id rfl
@[simp] theorem ajS (x:Cell):D.agg [.bool x.known,.int x.n]=aI x:=_root_.id rfl
@[simp] theorem ajO (x:Cell):(aI x).c 0=.bool x.known:=_root_.id rfl
@[simp] theorem ajJ (x:Cell):(aI x).c 1=.int x.n:=_root_.id rfl
def cells (l:List Cell):D:=.list (l.map aI)
@[simp] theorem aki (l:List Cell):(cells l).l=l.map aI:=_root_.id rfl
@[simp] theorem ae8 (l:List Cell):(cells l).cells=[cells l]:=_root_.id rfl
structure Said where
 cell:Cell
 order:Int
 path:List Int
 err:Int
 deriving Inhabited
def lM (x:Said):D:=.agg [.bool x.cell.known,.int x.cell.n,.int x.order,ints x.path,.int x.err]
@[simp] theorem afJ (x:Said):(lM x).cells=[.bool x.cell.known,.int x.cell.n,.int x.order,ints x.path,.int x.err]:=_root_.id rfl
@[simp] theorem akc (x:Said):D.agg [.bool x.cell.known,.int x.cell.n,.int x.order,ints x.path,.int x.err]=lM x:=_root_.id rfl
@[simp] theorem agu (x:Said):v9 5 (lM x)=lM x:=_root_.id rfl
structure Effect where
 sign:Int
 kind:Int
 firm:Int
 binds:Int
 text:Int
 sum:Int
 recourse:Bool
 deriving DecidableEq,Inhabited
def bK (x:Effect):D:=.agg [.int x.sign,.int x.kind,.int x.firm,.int x.binds,.int x.text,.int x.sum,.bool x.recourse]
@[simp] theorem ael (x:Effect):(bK x).cells=[.int x.sign,.int x.kind,.int x.firm,.int x.binds,.int x.text,.int x.sum,.bool x.recourse]:=_root_.id rfl
@[simp] theorem agR (x:Effect):D.agg [.int x.sign,.int x.kind,.int x.firm,.int x.binds,.int x.text,.int x.sum,.bool x.recourse]=bK x:=_root_.id rfl
@[simp] theorem afn (x:Effect):v9 7 (bK x)=bK x:=_root_.id rfl
@[simp] theorem agA (x:Effect):(bK x).c 0=.int x.sign:=_root_.id rfl
@[simp] theorem agK (x:Effect):(bK x).c 1=.int x.kind:=_root_.id rfl
@[simp] theorem agJ (x:Effect):(bK x).c 2=.int x.firm:=_root_.id rfl
@[simp] theorem agI (x:Effect):(bK x).c 3=.int x.binds:=_root_.id rfl
@[simp] theorem agH (x:Effect):(bK x).c 4=.int x.text:=_root_.id rfl
@[simp] theorem agL (x:Effect):(bK x).c 5=.int x.sum:=_root_.id rfl
@[simp] theorem ag1 (x:Effect):(bK x).c 6=.bool x.recourse:=_root_.id rfl
def tH (l:List Effect):D:=.list (l.map bK)
@[simp] theorem agV (l:List Effect):(tH l).l=l.map bK:=_root_.id rfl
@[simp] theorem ait (a0 x0:D):aX [a0] 0 [x0]=[x0]:=_root_.id rfl
@[simp] theorem ahE (a0 a1 x0 x1:D):aX [a0,a1] 0 [x0,x1]=[x0,x1]:=_root_.id rfl
@[simp] theorem ahX (a0 a1 a2 x0 x1 x2:D):aX [a0,a1,a2] 0 [x0,x1,x2]=[x0,x1,x2]:=_root_.id rfl
@[simp] theorem aib (a0 a1 a2 a3 x0 x1 x2 x3:D):aX [a0,a1,a2,a3] 0 [x0,x1,x2,x3]=[x0,x1,x2,x3]:=_root_.id rfl
@[simp] theorem aii (a0 a1 a2 a3 a4 x0 x1 x2 x3 x4:D):aX [a0,a1,a2,a3,a4] 0 [x0,x1,x2,x3,x4]=[x0,x1,x2,x3,x4]:=_root_.id rfl
@[simp] theorem ail (a0 a1 a2 a3 a4 a5 x0 x1 x2 x3 x4 x5:D):aX [a0,a1,a2,a3,a4,a5] 0 [x0,x1,x2,x3,x4,x5]=[x0,x1,x2,x3,x4,x5]:=_root_.id rfl
@[simp] theorem aiE (a0 a1 a2 a3 a4 a5 a6 x0 x1 x2 x3 x4 x5 x6:D):aX [a0,a1,a2,a3,a4,a5,a6] 0 [x0,x1,x2,x3,x4,x5,x6]=[x0,x1,x2,x3,x4,x5,x6]:=_root_.id rfl
@[simp] theorem aiA (a0 a1 a2 a3 a4 a5 a6 a7 a8 x0 x1 x2 x3 x4 x5 x6 x7 x8:D):aX [a0,a1,a2,a3,a4,a5,a6,a7,a8] 0 [x0,x1,x2,x3,x4,x5,x6,x7,x8]=[x0,x1,x2,x3,x4,x5,x6,x7,x8]:=_root_.id rfl
end Rm
set_option maxRecDepth 100000
namespace Rm
open Go Go.Proofs Cx
abbrev I:Ty:=.int .i64
abbrev Y0:Ty:=.agg [.str,I,I,(.slice I),(.slice I),(.slice I)]
abbrev Y1:Ty:=.agg [I]
abbrev Y2:Ty:=.agg [.str,I,I]
abbrev Y3:Ty:=.agg [I,I,.bool]
abbrev Y4:Ty:=.agg [I,I,I,(.slice .trm)]
abbrev Y5:Ty:=.agg [.str,.bool,(.slice Y3),(.slice Y4)]
abbrev Y6:Ty:=.agg [I,I,I]
abbrev Y7:Ty:=.agg [I,I,I,I,I]
abbrev Y8:Ty:=.agg [(.slice .str),(.slice Y0),(.slice Y1),(.slice Y2),(.slice Y5),(.slice Y6),(.slice Y7),(.slice Y6)]
abbrev Y9:Ty:=.agg [I,I,I,I,I,I,I,I,I]
abbrev Y10:Ty:=.agg [I,I]
abbrev Y11:Ty:=.agg [I,I,I,I,I,I,I,I,I,I,I,I,I,I,I,(.slice Y9),(.slice Y10),(.slice Y9),(.slice Y6)]
abbrev Y12:Ty:=.agg [I,I,I,I,I,I,.bool]
abbrev Y13:Ty:=.agg [I,I,I,I,I,I,I,I,I,I,I,I,I,I,I,(.slice Y9),(.slice Y10),(.slice Y9),(.slice Y6),I,I,I,I,I]
abbrev Y14:Ty:=.agg [.bool,I,I,(.slice I),I]
abbrev Y15:Ty:=.agg [.bool,I]
abbrev Y16:Ty:=.agg [(.slice .str),(.slice Y0),(.slice Y1),(.slice Y2),(.slice Y5),(.slice Y6),(.slice Y7),(.slice Y6),I,I,I,I,I,I,I,I,I,I,I,I,I,I,I,I,I,(.slice Y9),(.slice Y10),(.slice Y9),(.slice Y6),I,I]
abbrev Y17:Ty:=.agg [I,I,I,I,I,I,I,I,I,I,I,I,I,I,I]
abbrev Y18:Ty:=.agg [I,I,(.slice .trm)]
abbrev Y19:Ty:=.agg [(.slice Y15)]
abbrev Y20:Ty:=.agg [(.slice I),I]
def aq:List (Nat×Sig):=[
 (4,⟨[Y8,I,Y11,I,I,(.slice Y6)],.bool,.dat⟩),
 (5,⟨[Y8,I,Y11,I,(.slice Y6)],.bool,.dat⟩),
 (6,⟨[Y8,I,Y11,(.int .u8),I,(.int .u16)],.bool,.dat⟩),
 (15,⟨[],.bool,.dat⟩),
 (16,⟨[Y8,Y11],.bool,.dat⟩),
 (17,⟨[Y8,I,Y11,I,I],(.tup [Y12,.bool]),.dat⟩),
 (19,⟨[(.slice Y12),(.slice Y12)],.bool,.dat⟩),
 (20,⟨[Y8,I,Y11,I],(.slice Y12),.dat⟩),
 (22,⟨[I,I],I,.dat⟩),
 (24,⟨[Y8,Y11],I,.dat⟩),
 (25,⟨[Y11,Y6],Y11,.dat⟩),
 (26,⟨[Y11,I],Y11,.dat⟩),
 (36,⟨[Y8,I,I,Y13],Y14,.dat⟩),
 (38,⟨[Y8,I,I,Y11,I],Y14,.dat⟩),
 (41,⟨[Y14],I,.dat⟩),
 (43,⟨[Y14],I,.dat⟩),
 (50,⟨[Y8,I,Y11,I],I,.dat⟩),
 (52,⟨[Y8,Y13],(.slice Y15),.dat⟩),
 (53,⟨[Y8,I],I,.dat⟩),
 (54,⟨[Y8,I,I,(.slice I)],(.tup [(.slice I),I]),.dat⟩),
 (55,⟨[Y5,I,(.slice Y15)],(.tup [Y15,I]),.dat⟩),
 (58,⟨[],(.tup [Y8,Y11]),.dat⟩),
 (59,⟨[Y8,Y11],.bool,.dat⟩),
 (60,⟨[Y8],I,.dat⟩),
 (61,⟨[Y8,I,Y11,I],Y16,.dat⟩),
 (62,⟨[Y16,I],Y12,.dat⟩),
 (65,⟨[(.slice I)],I,.dat⟩),
 (66,⟨[Y8,Y17],I,.dat⟩),
 (67,⟨[Y8,Y11,I],I,.dat⟩),
 (68,⟨[I,I,I],.bool,.dat⟩),
 (69,⟨[Y8,Y11,I],I,.dat⟩),
 (70,⟨[Y11,I],I,.dat⟩),
 (71,⟨[Y11,I,I],Y15,.dat⟩),
 (72,⟨[I,I],.bool,.dat⟩),
 (75,⟨[Y8],I,.dat⟩),
 (95,⟨[Y8,I,I,Y13],(.tup [Y14,(.slice Y15)]),.dat⟩),
 (100,⟨[Y8,Y13],(.tup [Y13,(.slice Y15)]),.dat⟩),
 (101,⟨[Y8,I,Y13],(.nsl I),.dat⟩),
 (105,⟨[Y8,Y17,I,I],(.tup [I,I]),.dat⟩),
 (106,⟨[Y11],I,.dat⟩),
 (109,⟨[(.slice Y10),(.fn [Y10] .bool)],.bool,.dat⟩),
 (110,⟨[Y10,(.ref Y13)],.bool,.dat⟩),
 (111,⟨[.bool],Y15,.dat⟩),
 (112,⟨[Y11,I,I],Y15,.dat⟩),
 (113,⟨[I,I],.bool,.dat⟩),
 (114,⟨[Y8,I,I,(.slice I)],.bool,.dat⟩),
 (115,⟨[Y8,I,I,(.slice I)],(.tup [I,.bool]),.dat⟩),
 (116,⟨[(.slice I),I],.bool,.dat⟩),
 (117,⟨[Y5,I],(.tup [Y18,I]),.dat⟩),
 (118,⟨[Y18,(.slice Y15)],Y15,.dat⟩),
 (119,⟨[I],(.tup [I,.bool]),.dat⟩),
 (120,⟨[I],.bool,.dat⟩),
 (121,⟨[Y0,I],.bool,.dat⟩),
 (122,⟨[I],Y18,.dat⟩),
 (123,⟨[Y8],.bool,.dat⟩),
 (124,⟨[Y11],.bool,.dat⟩),
 (125,⟨[Y5],.bool,.dat⟩),
 (126,⟨[Y8],I,.dat⟩),
 (127,⟨[Y8],I,.dat⟩),
 (128,⟨[Y8],I,.dat⟩),
 (129,⟨[Y8],I,.dat⟩),
 (130,⟨[Y8],I,.dat⟩),
 (131,⟨[Y11,I,I],.bool,.dat⟩),
 (132,⟨[Y16,I,I],I,.dat⟩),
 (133,⟨[Y16,I],(.tup [I,I]),.dat⟩),
 (138,⟨[I,I],.bool,.dat⟩),
 (139,⟨[I,I],.bool,.dat⟩),
 (140,⟨[I],.bool,.dat⟩),
 (141,⟨[Y17],.bool,.dat⟩),
 (142,⟨[Y8,I,I],(.tup [I,I]),.dat⟩),
 (143,⟨[Y8,Y11,I],.bool,.dat⟩),
 (144,⟨[Y8,Y11,Y9],.bool,.dat⟩),
 (145,⟨[Y8],(.tup [(.slice .str),(.slice .str),(.slice .str)]),.dat⟩),
 (146,⟨[(.slice .str),I,(.fn [I] .bool)],I,.dat⟩),
 (147,⟨[I],.bool,.dat⟩),
 (148,⟨[I,(.ref Y8)],.bool,.dat⟩),
 (149,⟨[Y8,Y0],.bool,.dat⟩),
 (150,⟨[I,(.ref Y8)],.bool,.dat⟩),
 (151,⟨[I,(.ref Y8)],.bool,.dat⟩),
 (152,⟨[Y5],.bool,.dat⟩),
 (153,⟨[Y8],I,.dat⟩),
 (154,⟨[Y8],I,.dat⟩),
 (161,⟨[Y8,I,I],(.tup [I,I]),.dat⟩),
 (173,⟨[Y8,I],.bool,.dat⟩),
 (174,⟨[I],.bool,.dat⟩),
 (175,⟨[Y6],.bool,.dat⟩),
 (176,⟨[Y8,Y17,I],(.tup [I,I]),.dat⟩),
 (177,⟨[Y8,I,I],(.tup [I,I]),.dat⟩),
 (178,⟨[(.slice I)],I,.dat⟩),
 (183,⟨[(.slice Y10),(.fn [Y10] .bool)],I,.dat⟩),
 (184,⟨[(.slice I),(.fn [I] .bool)],.bool,.dat⟩),
 (185,⟨[I,(.ref I)],.bool,.dat⟩),
 (186,⟨[(.slice I),I],I,.dat⟩),
 (187,⟨[(.slice Y4),(.fn [Y4] .bool)],I,.dat⟩),
 (188,⟨[Y4,(.ref I)],.bool,.dat⟩),
 (189,⟨[Y18],(.tup [I,I]),.dat⟩),
 (190,⟨[Y19,Y18],(.tup [Y15,(.slice I)]),.dat⟩),
 (191,⟨[I],(.tup [I,I,I]),.dat⟩),
 (192,⟨[Y18],.bool,.dat⟩),
 (193,⟨[(.slice .str),I],I,.dat⟩),
 (194,⟨[Y8,Y0],.bool,.dat⟩),
 (195,⟨[Y5],.bool,.dat⟩),
 (196,⟨[Y11,I],(.map I .bool),.dat⟩),
 (197,⟨[Y11,I],I,.dat⟩),
 (198,⟨[Y11,I],.bool,.dat⟩),
 (199,⟨[Y11,I,I],.bool,.dat⟩),
 (200,⟨[(.slice .str),I],I,.dat⟩),
 (201,⟨[(.slice I),I,I],.bool,.dat⟩),
 (215,⟨[I,Y6],(.tup [I,I]),.dat⟩),
 (216,⟨[Y8,I,I],I,.dat⟩),
 (217,⟨[Y0,I],(.tup [I,I]),.dat⟩),
 (220,⟨[(.slice I),(.fn [I] .bool)],I,.dat⟩),
 (221,⟨[Y18,I],I,.dat⟩),
 (222,⟨[Y18],(.tup [I,I]),.dat⟩),
 (223,⟨[Y19,I],Y15,.dat⟩),
 (224,⟨[I,(.slice Y15)],Y15,.dat⟩),
 (225,⟨[(.slice (.slice I))],(.slice I),.dat⟩),
 (226,⟨[Y18,I,I],I,.dat⟩),
 (227,⟨[.str],.bool,.dat⟩),
 (228,⟨[(.slice .str),I,.str],.bool,.dat⟩),
 (229,⟨[(.slice I),I,I],.bool,.dat⟩),
 (230,⟨[.str],.bool,.dat⟩),
 (231,⟨[(.slice .str),.str],.bool,.dat⟩),
 (239,⟨[I,I],(.tup [I,I]),.dat⟩),
 (240,⟨[Y0,I,I],(.fn [(.fn [I] .bool)] (.tup [])),.dat⟩),
 (245,⟨[Y18],(.tup [I,I]),.dat⟩),
 (246,⟨[I],Y20,.dat⟩),
 (247,⟨[I],(.tup [I,.bool]),.dat⟩),
 (248,⟨[.bool],Y15,.dat⟩),
 (249,⟨[I],I,.dat⟩),
 (250,⟨[I,I,I],I,.dat⟩),
 (251,⟨[.nils .bool,I],(.slice I),(.row 3 I)⟩),
 (252,⟨[(.int .u8)],.bool,.dat⟩),
 (253,⟨[(.slice .str),.str],I,.dat⟩),
 (272,⟨[I,I,I],(.tup [I,I]),.dat⟩),
 (273,⟨[I,I],I,.dat⟩),
 (278,⟨[I,I],I,.dat⟩),
 (284,⟨[I,I,I],I,.dat⟩),
 (285,⟨[(.int .u64),(.int .u64)],(.tup [(.int .u64),(.int .u64)]),.dat⟩)]
def afF:List (Nat×CSig):=[
 (110,⟨[(.ref Y13)],[Y10],.bool⟩),
 (147,⟨[],[I],.bool⟩),
 (148,⟨[(.ref Y8)],[I],.bool⟩),
 (150,⟨[(.ref Y8)],[I],.bool⟩),
 (151,⟨[(.ref Y8)],[I],.bool⟩),
 (185,⟨[(.ref I)],[I],.bool⟩),
 (188,⟨[(.ref I)],[Y4],.bool⟩),
 (274,⟨[(.ref I),(.ref I),(.ref Y0)],[(.fn [I] .bool)],(.tup [])⟩)]
abbrev yg:Nat:=5
abbrev Ka:Nat:=15
abbrev SB:Nat:=16
abbrev CT:Nat:=17
abbrev Pw:Nat:=19
abbrev AD:Nat:=20
abbrev QQ:Nat:=22
abbrev KY:Nat:=24
abbrev OQ:Nat:=25
abbrev KO:Nat:=26
abbrev Tv:Nat:=36
abbrev Nt:Nat:=38
abbrev TJ:Nat:=41
abbrev GP:Nat:=43
abbrev z7:Nat:=50
abbrev Cl:Nat:=52
abbrev yo:Nat:=53
abbrev zp:Nat:=54
abbrev Ac:Nat:=55
abbrev CC:Nat:=58
abbrev Tp:Nat:=59
abbrev Kr:Nat:=60
abbrev J8:Nat:=61
abbrev rT:Nat:=62
abbrev y3:Nat:=65
abbrev KM:Nat:=66
abbrev J7:Nat:=67
abbrev wP:Nat:=68
abbrev PR:Nat:=69
abbrev K7:Nat:=70
abbrev O1:Nat:=71
abbrev xY:Nat:=72
abbrev C9:Nat:=75
abbrev Qe:Nat:=95
abbrev Ww:Nat:=100
abbrev Vd:Nat:=101
abbrev tM:Nat:=105
abbrev Ct:Nat:=106
abbrev gq:Nat:=109
abbrev yh:Nat:=110
abbrev AT:Nat:=111
abbrev Cr:Nat:=112
abbrev OS:Nat:=113
abbrev yw:Nat:=114
abbrev wy:Nat:=115
abbrev nf:Nat:=116
abbrev FX:Nat:=117
abbrev KK:Nat:=118
abbrev Hv:Nat:=119
abbrev v5:Nat:=120
abbrev yf:Nat:=121
abbrev A1:Nat:=122
abbrev SX:Nat:=123
abbrev TA:Nat:=124
abbrev TC:Nat:=125
abbrev Gj:Nat:=126
abbrev Kl:Nat:=127
abbrev FE:Nat:=128
abbrev Db:Nat:=129
abbrev Fh:Nat:=130
abbrev Ap:Nat:=131
abbrev vX:Nat:=132
abbrev vM:Nat:=133
abbrev WJ:Nat:=138
abbrev Pk:Nat:=139
abbrev K0:Nat:=140
abbrev K6:Nat:=141
abbrev E0:Nat:=142
abbrev P8:Nat:=143
abbrev Kp:Nat:=144
abbrev C5:Nat:=145
abbrev GV:Nat:=146
abbrev qx:Nat:=147
abbrev qg:Nat:=148
abbrev Hm:Nat:=149
abbrev pJ:Nat:=150
abbrev pE:Nat:=151
abbrev C3:Nat:=152
abbrev yt:Nat:=153
abbrev F9:Nat:=154
abbrev zR:Nat:=161
abbrev rS:Nat:=173
abbrev jK:Nat:=174
abbrev sM:Nat:=175
abbrev rq:Nat:=176
abbrev sq:Nat:=177
abbrev wc:Nat:=178
abbrev jE:Nat:=183
abbrev jh:Nat:=184
abbrev lT:Nat:=185
abbrev sl:Nat:=186
abbrev lu:Nat:=187
abbrev rZ:Nat:=188
abbrev G5:Nat:=189
abbrev kL:Nat:=190
abbrev wF:Nat:=191
abbrev TF:Nat:=192
abbrev oQ:Nat:=193
abbrev px:Nat:=194
abbrev nL:Nat:=195
abbrev AV:Nat:=196
abbrev Cp:Nat:=197
abbrev KS:Nat:=198
abbrev VD:Nat:=199
abbrev CO:Nat:=200
abbrev y9:Nat:=201
abbrev CR:Nat:=215
abbrev HA:Nat:=216
abbrev yC:Nat:=217
abbrev lY:Nat:=220
abbrev Az:Nat:=221
abbrev Fa:Nat:=222
abbrev ph:Nat:=223
abbrev zI:Nat:=224
abbrev qM:Nat:=225
abbrev O0:Nat:=226
abbrev Qn:Nat:=227
abbrev Fo:Nat:=228
abbrev Fs:Nat:=229
abbrev Ax:Nat:=230
abbrev jD:Nat:=231
abbrev pg:Nat:=239
abbrev yi:Nat:=240
abbrev Kw:Nat:=245
abbrev A2:Nat:=246
abbrev AK:Nat:=247
abbrev OM:Nat:=248
abbrev Oe:Nat:=249
abbrev tX:Nat:=250
abbrev Hl:Nat:=252
abbrev ni:Nat:=253
abbrev zz:Nat:=272
abbrev tL:Nat:=273
abbrev uA:Nat:=274
abbrev AR:Nat:=278
abbrev mL:Nat:=284
abbrev Ge:Nat:=285
noncomputable def ctx:Ctx:={P:=Tryz.prog,cap:=aa afF,sig:=aa aq,msig:=fun _=>none,glob:=TP 0 [6,7,10,12,13,14,15,16,20,21]}
abbrev X0:PE:=.ai .quo .i64 (aQ (aF (aQ (.ai .rem .i64 (aF r0 (pi 730425)) (pi 146097)) (.ai .quo .i64 (.ai .rem .i64 (aF r0 (pi 730425)) (pi 146097)) (pi 1460))) (.ai .quo .i64 (.ai .rem .i64 (aF r0 (pi 730425)) (pi 146097)) (pi 36524))) (.ai .quo .i64 (.ai .rem .i64 (aF r0 (pi 730425)) (pi 146097)) (pi 146096))) (pi 365)
abbrev Ed:PE:=.con (.agg [(.int 0),(.int 0),(.int 0),(.int 0),(.int 0),(.int 0),(.int 0),(.int 0),(.int 0),(.int 0),(.int 0),(.int 0),(.int 0),(.int 0),(.int 0),(.list []),(.list []),(.list []),(.list [])])
abbrev XL:PE:=.con (.agg [(.int 0),(.int 0),(.int 0),(.int 0),(.int 0),(.int 0),(.bool false)])
abbrev qv:PE:=.con (.agg [(.bool false),(.int 0)])
abbrev aek:PE:=.ai .quo .i64 (aF (.ai .mul .i64 (pi 5) (aQ (.ai .rem .i64 (aF r0 (pi 730425)) (pi 146097)) (aQ (aF (.ai .mul .i64 (pi 365) X0) (.ai .quo .i64 X0 (pi 4))) (.ai .quo .i64 X0 (pi 100))))) (pi 2)) (pi 153)
abbrev acR:PE:=.con (.agg [(.list []),(.list []),(.list []),(.list []),(.list []),(.list []),(.list []),(.list []),(.int 0),(.int 0),(.int 0),(.int 0),(.int 0),(.int 0),(.int 0),(.int 0),(.int 0),(.int 0),(.int 0),(.int 0),(.int 0),(.int 0),(.int 0),(.int 0),(.int 0),(.list []),(.list []),(.list []),(.list []),(.int 0),(.int 0)])
abbrev Rg:PE:=.deref (.con (.ref (.agg [(.int 6),(.int 7),(.int 10),(.int 12),(.int 13),(.int 14),(.int 15),(.int 16),(.int 20),(.int 21)])))
abbrev adY:PE:=.put (.put (.put (.put (.con (.map [])) (pi 7) (pne (.ai .and .i64 (pc o6 13) (pi 1)) (pi 0))) (pi 8) (peq (pc o6 2) (pi (-1)))) (pi 9) (pne (.ai .and .i64 (pc o6 13) (pi 4)) (pi 0))) (pi 10) (pne (.ai .and .i64 (pc o6 13) (pi 2)) (pi 0))
abbrev Gb:PE:=.setc z3 0 (.mk [(pc (.mk [r0]) 5),(pc (.mk [r0]) 6),(pc (.mk [r0]) 7)])
abbrev aci:PE:=.pick (.pick (pne (pc (pn r14 r16) 3) (pi 2)) (pne (pc (pn r15 r16) 3) (pc (pn r14 r16) 3)) pF) pT (.pick (pne (pc (pn r14 r16) 4) (pi 2)) (pne (pc (pn r15 r16) 4) (pc (pn r14 r16) 4)) pF)
abbrev qO:PE:=.con (.agg [(.int 0),(.int 0),(.list [])])
abbrev acx:PE:=.mk [(pc (.mk [r0]) 10),(pc (.mk [r0]) 11),(pc (.mk [r0]) 12),(pc (.mk [r0]) 13),(pc (.mk [r0]) 14),(pc (.mk [r0]) 15),(pc (.mk [r0]) 16),(pc (.mk [r0]) 17),(pc (.mk [r0]) 18),(pc (.mk [r0]) 19),(pc (.mk [r0]) 20),(pc (.mk [r0]) 21),(pc (.mk [r0]) 22),(pc (.mk [r0]) 23),(pc (.mk [r0]) 24),(pc (.mk [r0]) 25),(pc (.mk [r0]) 26),(pc (.mk [r0]) 27),(pc (.mk [r0]) 28)]
abbrev Np:PE:=mkA 7 (.pick (peq r20 r15) (.setc (.setc XL 0 (pn r17 r20)) 3 (pi 0)) (.setc XL 0 (pn r17 r20)))
abbrev aZ:PE:=pi 4294967296
abbrev sT:PE:=.con (.agg [(.list []),(.int 0)])
abbrev Tn:PE:=.mk [(pc (.setc qv 0 r27) 0),(pc (.setc qv 0 r27) 1)]
abbrev TB:PE:=.setc z9 0 (pn (pc (.mk [r2]) 15) (pc (.mk [r2]) 19))
abbrev ng:PE:=.setc (.mk [r3]) 18 pL
abbrev abU:PE:=.put (.put (.put (.con (.map [])) (pi 0) (pc o6 3)) (pi 1) (pc o6 14)) (pi 2) (pc o6 5)
abbrev ZO:PE:=.pick (.pick (peq (.tget r28 0) (pi 0)) (pc o10 0) pF) (.setc o10 1 (.mn (.mx (pc o10 1) (pi 0)) (pi 20000))) o10
abbrev WH:PE:=.mk [(pc (.setc o4 0 (.mk [pF,(pi 0)])) 0),(pc (.setc o4 0 (.mk [pF,(pi 0)])) 1)]
abbrev Tx:PE:=.con (.agg [(.bool false),(.int 0),(.int 0),(.list []),(.int 0)])
abbrev ZJ:PE:=.con (.agg [(.int 0),(.int 0),(.bool false)])
abbrev aeQ:PE:=.ai .add .u64 (.ai .mul .u64 (.ai .shr .u64 r0 (.con (.v (.int .u64 32)))) (.ai .and .u64 r1 (.con (.v (.int .u64 4294967295))))) (.ai .shr .u64 (.ai .mul .u64 (.ai .and .u64 r0 (.con (.v (.int .u64 4294967295)))) (.ai .and .u64 r1 (.con (.v (.int .u64 4294967295))))) (.con (.v (.int .u64 32))))
abbrev N2:PE:=.setc (.setc o10 3 (.tget r46 0)) 4 (.tget r46 1)
abbrev oP:PE:=mkA 8 (.mk [r0])
abbrev Z3:PE:=aF (aQ (aF (.ai .mul .i64 (pi 12) (.tget r23 0)) (.tget r23 1)) (pi 1)) r1
abbrev ae2:PE:=.con (.agg [(.int 0),(.int 0),(.int 0),(.int 0),(.int 0),(.int 0),(.int 0),(.int 0),(.int 0),(.int 0),(.int 0),(.int 0),(.int 0),(.int 0),(.int 0),(.list []),(.list []),(.list []),(.list []),(.int 0),(.int 0),(.int 0),(.int 0),(.int 0)])
abbrev OC:PE:=pc (.mk [r0]) 2
abbrev Ta:PE:=.setc z3 0 (pn (pc o2 18) r8)
abbrev SF:PE:=.setc z3 0 (pn (pc o2 18) r6)
abbrev m0:PE:=.setc o2 18 pN
abbrev CS:PE:=peq (pc o5 8) (pi 0)
abbrev m6:PE:=pn r14 r16
abbrev N1:PE:=mkA 7 (.setc XL 0 (.tget r96 0))
abbrev tp:PE:=pc (.mk [r0]) 0
abbrev sG:PE:=.llen (pc o1 1)
abbrev adA:PE:=.mk [(pc (.setc o4 0 (.mk [(pi 0),(pi 0),pL])) 0),(pc (.setc o4 0 (.mk [(pi 0),(pi 0),pL])) 1),pL]
abbrev VO:PE:=.pick r7 (peq (pc o5 4) (pi (-1))) pF
abbrev Th:PE:=.setc z3 0 (pn r12 r14)
abbrev ab1:PE:=.an (.nt (.pick (pne (pc m6 3) (pi 2)) (pne (pc (pn r15 r16) 3) (pc m6 3)) pF)) pT
abbrev vN:PE:=.llen (pc o1 3)
abbrev aeZ:PE:=.pick (.pick (peq (.tget r19 0) (.con (.v (.int .u64 0)))) (plt (.tget r19 1) (.con (.v (.int .u64 1099511627776)))) pF) (.conv .i64 (.tget r19 1)) (pi 1099511627776)
abbrev acY:PE:=mkA 5 (.setc o8 0 (.mk [(pc o10 0),(pc o10 1),(pc o10 2),(.o 16394),(pc o10 4)]))
abbrev adH:PE:=.mk [(pc (.setc o6 0 (.mk [pF,(pi 0)])) 0),(pc (.setc o6 0 (.mk [pF,(pi 0)])) 1)]
abbrev aeR:PE:=.app (.app (.lst []) (pc o14 17)) (.lst [(.mk [(pi 7),(pi 0),(pi (-1)),(pi 0),(.ai .rem .i64 (.conv .i64 r3) (.llen (pc o14 15))),(pi 0),r4,(pi 0),(pi 0)])])
abbrev yz:PE:=.llen (pc o3 2)
abbrev yF:PE:=.llen (pc o1 4)
abbrev ae5:PE:=.pick (.pick (.pick (plt (pc TB 2) (pi 0)) pT (pge (pc TB 2) (.llen (pc (.mk [r0]) 3)))) pT (plt r1 (pi 0))) pT (pge r1 (.llen (pc (.mk [r0]) 4)))
abbrev AY:PE:=pc (.mk [r0]) 15
abbrev abX:PE:=.put (.con (.map [])) (pi 7) (pne (.ai .and .i64 (pc o6 13) (pi 1)) (pi 0))
abbrev VW:PE:=.setc z9 0 (pn (pc (.mk [r0]) 25) r1)
abbrev afd:PE:=.app o2 (.lst [(pc (.setc (.con (.agg [(.v (.string ⟨#[]⟩)),(.int 0),(.int 0),(.list []),(.list []),(.list [])])) 0 (pn r12 r14)) 0)])
abbrev XJ:PE:=aQ (pi 2) (pc (pn o7 (pi 0)) 1)
abbrev afo:PE:=.pick (peq (pc o5 0) (pi 0)) (peq (pc o5 0) (pi 0)) (.pick (peq (pc o5 0) (pi 1)) (peq (pc o5 0) (pi 1)) (peq (pc o5 0) (pi 2)))
abbrev aai:PE:=.setc qO 0 (.sub (pn (pc o2 3) r23) 1 3)
abbrev CP:PE:=.llen (pc o1 2)
abbrev afa:PE:=.setc (.con (.agg [(.list []),(.list []),(.list []),(.list []),(.list []),(.list []),(.list []),(.list [])])) 0 (.tget r9 0)
abbrev aag:PE:=.pick (plt r1 (pi 3)) (aQ r0 (pi 1)) r0
abbrev aeH:PE:=.app o4 (.lst [(pc (.setc (.con (.agg [(.v (.string ⟨#[]⟩)),(.bool false),(.list []),(.list [])])) 0 (pn r38 r40)) 0)])
abbrev C7:PE:=aF r8 (pi 1)
abbrev Td:PE:=.con (.v (.int .u64 32))
abbrev GF:PE:=pc (.mk [r0]) 1
abbrev aeL:PE:=.put (.put (.put adY (pi 11) (pne af5 agk)) (pi 12) r13) (pi 13) (pne (.ai .and .i64 (pc o8 8) (pi 1)) (pi 0))
abbrev Aj:PE:=pn r1 (pi 1)
abbrev wg:PE:=pn r18 r20
abbrev aah:PE:=.setc z9 0 (pn (pc (.mk [r1]) 15) r2)
abbrev Ks:PE:=.llen (pc o3 18)
abbrev KR:PE:=.llen (pc o3 15)
abbrev ach:PE:=.pick aci pT (plt (pc (pn r15 r16) 5) (pc m6 5))
abbrev abZ:PE:=.put (.put abU (pi 3) (pc o6 12)) (pi 4) (pc o8 0)
abbrev afr:PE:=.pick (pgt (.llen (pc (pn (pc o1 1) r3) 4)) (pi 70)) pT (pgt (.llen (pc (pn (pc o1 1) r3) 5)) (pi 210))
abbrev zk:PE:=plt r14 r13
abbrev WN:PE:=.setc ZJ 0 (pn r23 r25)
abbrev Ad:PE:=.llen OC
abbrev afg:PE:=.app o3 (.lst [(pc (.setc (.con (.agg [(.v (.string ⟨#[]⟩)),(.int 0),(.int 0)])) 0 (pn r25 r27)) 0)])
abbrev aeW:PE:=.app o4 (.lst [(pc (.setc (.con (.agg [(.int 0),(.int 0),(.int 0),(.list [])])) 0 (pn r27 r29)) 0)])
abbrev KL:PE:=.llen (pc o1 0)
abbrev aeU:PE:=.an (.cb .eql (pc (pn r1 (pi 0)) 0) (pc Tn 0)) (.an (peq (pc (pn r1 (pi 0)) 1) (pc Tn 1)) pT)
abbrev aff:PE:=.app (.o 69637) (.lst [(.mk [(pc (.setc z2 0 (pn r54 r56)) 0),(pc (.setc z2 0 (pn r54 r56)) 1)])])
abbrev FL:PE:=peq r5 (pi 0)
abbrev WT:PE:=peq (pc o5 5) (pi 0)
abbrev adL:PE:=.setc o4 0 (.mk [(pc o9 0),(pc o9 1),(pc o9 2)])
abbrev adV:PE:=.setc (.setc o6 4 (.tget r49 0)) 5 (.tget r49 1)
abbrev afq:PE:=.pick (.nt (.nt (.an (.an r14 pT) (.nt pF)))) (.app (.o 1000) (.lst [(.tup [r5])])) (.o 1000)
abbrev Lf:PE:=aF r3 (pi 1)
abbrev Sy:PE:=pne (pi 100) (pi 0)
abbrev aeY:PE:=.pick (pgt (aF aek (pi 3)) (pi 12)) (aQ (aF aek (pi 3)) (pi 12)) (aF aek (pi 3))
abbrev Oj:PE:=.llen (pc o2 18)
abbrev aeP:PE:=.setc o4 0 (.mk [(pc (.setc qv 0 (.tget r21 0)) 0),(pc (.setc qv 0 (.tget r21 0)) 1)])
abbrev VN:PE:=.setc z9 0 (pn r34 r36)
abbrev ZR:PE:=pc (pn (pc o4 15) (pc o7 3)) 0
abbrev ZV:PE:=.setc qv 0 (.mk [pT,(pi 1)])
abbrev aac:PE:=.setc qv 0 (.mk [pT,(pi 0)])
abbrev O2:PE:=pn (pc o1 4) r4
abbrev ac9:PE:=peq (.sidx r0 r3) (.con (.v (.int .u8 95)))
abbrev QI:PE:=pc (.mk [r0]) 5
abbrev acq:PE:=.setc z3 0 (pn (pc o2 18) (aQ r1 (pi 1)))
abbrev aeS:PE:=.pick (.pick (peq (pc Th 0) r1) (ple (pc Th 1) r2) pF) (ple r2 (pc Th 2)) pF
abbrev D3:PE:=.llen (pc o1 7)
abbrev Nq:PE:=.con (.agg [(.int 0)])
abbrev ab9:PE:=aF X0 (.ai .mul .i64 (pi 400) (.ai .quo .i64 (aF r0 (pi 730425)) (pi 146097)))
abbrev Zu:PE:=.app o5 (.lst [(pc (pn (pc o1 1) r6) 0)])
abbrev YG:PE:=.app o4 (.lst [(pc (pn (pc o1 3) r5) 0)])
abbrev DW:PE:=aQ r2 (pi 1)
abbrev DP:PE:=aF r5 (pi 1)
abbrev Jo:PE:=pi 1099511627776
abbrev Jm:PE:=pc (.mk [r0]) 18
abbrev ab0:PE:=.pick (peq (pc o5 0) (pi 7)) (peq (pc o5 0) (pi 7)) (peq (pc o5 0) (pi 8))
abbrev adU:PE:=.pick (peq (pc o5 0) (pi 3)) (peq (pc o5 0) (pi 3)) (peq (pc o5 0) (pi 5))
abbrev wQ:PE:=pn r10 r12
abbrev UO:PE:=plt r9 (.llen (pc o3 17))
abbrev UF:PE:=plt r7 (.llen (pc o3 16))
abbrev zm:PE:=pix r14 r16
abbrev HV:PE:=pc (.mk [r0]) 4
abbrev Il:PE:=aF r16 (pi 1)
abbrev YO:PE:=.pick (pge r0 (pi 0)) (plt r0 r1) pF
abbrev acy:PE:=.pick (.pick (.pick (peq (pc o5 2) (pi (-1))) r9 pF) WT pF) CS pF
abbrev JT:PE:=.llen (pc o1 5)
abbrev adx:PE:=.setc o4 0 (.mk [(pc (.setc qv 0 r88) 0),(pc (.setc qv 0 r88) 1)])
abbrev adQ:PE:=.setc o4 0 (.mk [(pc (.setc qv 0 r26) 0),(pc (.setc qv 0 r26) 1)])
abbrev ab3:PE:=.pick (.pick VO r8 pF) (.pick CS pT (peq (pc o5 8) (pi 1))) pF
abbrev Ew:PE:=pn r3 (pi 2)
abbrev acH:PE:=.setc sT 0 (.mk [(.lst [(pi 1),(pi (-1)),(pi (-1))]),(pi (-1))])
abbrev acp:PE:=.pick (pne (pc o3 22) (pi (-1))) (aQ (pc o8 6) (pc o3 22)) (pi 0)
abbrev X5:PE:=.ai .rem .i64 (pn r8 r10) (pi 100)
abbrev acZ:PE:=.app (.o 77829) (.lst [(.mk [(pc o13 0),(pc o13 1),(pc o13 2)])])
abbrev abW:PE:=.app o5 (.lst [(.mk [(pc SF 0),(pc SF 1),(pc SF 2)])])
abbrev adC:PE:=.app o5 (.lst [(.mk [(pc Ta 0),(pc Ta 1),(pc Ta 2)])])
end Rm
