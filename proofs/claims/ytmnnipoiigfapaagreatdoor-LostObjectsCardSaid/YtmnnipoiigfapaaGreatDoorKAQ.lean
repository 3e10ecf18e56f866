/-
  Shared texts of this claim.
-/
import Derived.Test.YtmnnipoiigfapaaGreatDoorKAP
set_option linter.unusedSimpArgs false
set_option linter.unusedVariables false
namespace Rm
open Go Cx
structure Chain where
 signs:List Int
 holder:Int
 broken:Int
 bearer:Bool
 agent:Int
 late:List Int
 deriving Inhabited
def yI (x:Chain):D:=.agg [ints x.signs,.int x.holder,.int x.broken,.bool x.bearer,.int x.agent,ints x.late]
@[simp] theorem ar2 (x:Chain):(yI x).cells=[ints x.signs,.int x.holder,.int x.broken,.bool x.bearer,.int x.agent,ints x.late]:=_root_.id rfl
@[simp] theorem awQ (x:Chain):D.agg [ints x.signs,.int x.holder,.int x.broken,.bool x.bearer,.int x.agent,ints x.late]=yI x:=_root_.id rfl
@[simp] theorem atW (x:Chain):jP 6 (yI x)=yI x:=_root_.id rfl
@[simp] theorem ar1 (x:Chain):(yI x).c 0=ints x.signs:=_root_.id rfl
structure Objection where
 firm:Int
 day:Int
 shows:Bool
 deriving DecidableEq,Inhabited
def jR (x:Objection):D:=.agg [.int x.firm,.int x.day,.bool x.shows]
@[simp] theorem asW (x:Objection):(jR x).cells=[.int x.firm,.int x.day,.bool x.shows]:=_root_.id rfl
@[simp] theorem awZ (x:Objection):D.agg [.int x.firm,.int x.day,.bool x.shows]=jR x:=_root_.id rfl
@[simp] theorem asT (x:Objection):(jR x).c 0=.int x.firm:=_root_.id rfl
@[simp] theorem asU (x:Objection):(jR x).c 1=.int x.day:=_root_.id rfl
@[simp] theorem asV (x:Objection):(jR x).c 2=.bool x.shows:=_root_.id rfl
def mT (l:List Objection):D:=.list (l.map jR)
@[simp] theorem axi (l:List Objection):(mT l).l=l.map jR:=_root_.id rfl
@[simp] theorem axh (l:List Objection):(mT l).cells=[mT l]:=_root_.id rfl
abbrev SV:Ty:=.agg [.int .i64,.int .i64,.bool]
def Objection.OK (x:Objection):Prop:=aN x.firm∧aN x.day
theorem alJ {d:D}(h:DTy SV d):∃x:Objection,d=jR x∧x.OK:=by
 obtain⟨ds,rfl,hs⟩:=h.agg_inv;obtain⟨d0,ds,rfl,h0,hs⟩:=hs.cons_inv;obtain⟨d1,ds,rfl,h1,hs⟩:=hs.cons_inv;obtain⟨d2,ds,rfl,h2,hs⟩:=hs.cons_inv;obtain rfl:=hs.nil_inv;obtain⟨n0,rfl,b0⟩:=h0.i64_inv;obtain⟨n1,rfl,b1⟩:=h1.i64_inv;obtain⟨n2,rfl⟩:=h2.bool_inv;exact⟨⟨n0,n1,n2⟩,rfl,⟨b0,b1⟩⟩
theorem alK {d:D}(h:DTy (.slice SV) d):∃l:List Objection,d=mT l∧l.length≤maxLen∧∀y,y∈l→Objection.OK y:=by
 obtain⟨xs,rfl,hm,hx⟩:=h.slice_inv;obtain⟨l,rfl,hl⟩:=jD (enc:=jR) (P:=Objection.OK) fun x hh=>alJ (hx x hh);exact⟨l,rfl,by simpa using hm,hl⟩
structure Lost where
 file:Int
 part:Int
 by_:Int
 day:Int
 notice:Int
 claims:List Objection
 deriving Inhabited
def dS (x:Lost):D:=.agg [.int x.file,.int x.part,.int x.by_,.int x.day,.int x.notice,mT x.claims]
@[simp] theorem asS (x:Lost):(dS x).cells=[.int x.file,.int x.part,.int x.by_,.int x.day,.int x.notice,mT x.claims]:=_root_.id rfl
@[simp] theorem awY (x:Lost):D.agg [.int x.file,.int x.part,.int x.by_,.int x.day,.int x.notice,mT x.claims]=dS x:=_root_.id rfl
@[simp] theorem atY (x:Lost):jP 6 (dS x)=dS x:=_root_.id rfl
@[simp] theorem asN (x:Lost):(dS x).c 1=.int x.part:=_root_.id rfl
@[simp] theorem asO (x:Lost):(dS x).c 2=.int x.by_:=_root_.id rfl
@[simp] theorem asP (x:Lost):(dS x).c 3=.int x.day:=_root_.id rfl
@[simp] theorem asQ (x:Lost):(dS x).c 4=.int x.notice:=_root_.id rfl
@[simp] theorem asR (x:Lost):(dS x).c 5=mT x.claims:=_root_.id rfl
abbrev aqM:Ty:=.agg [.int .i64,.int .i64,.int .i64,.int .i64,.int .i64,.slice SV]
def Lost.OK (x:Lost):Prop:=aN x.file∧aN x.part∧aN x.by_∧aN x.day∧aN x.notice∧(x.claims.length≤maxLen∧∀y,y∈x.claims→Objection.OK y)
theorem Xx {d:D}(h:DTy aqM d):∃x:Lost,d=dS x∧x.OK:=by
 obtain⟨ds,rfl,hs⟩:=h.agg_inv;obtain⟨d0,ds,rfl,h0,hs⟩:=hs.cons_inv;obtain⟨d1,ds,rfl,h1,hs⟩:=hs.cons_inv;obtain⟨d2,ds,rfl,h2,hs⟩:=hs.cons_inv;obtain⟨d3,ds,rfl,h3,hs⟩:=hs.cons_inv;obtain⟨d4,ds,rfl,h4,hs⟩:=hs.cons_inv;obtain⟨d5,ds,rfl,h5,hs⟩:=hs.cons_inv;obtain rfl:=hs.nil_inv;obtain⟨n0,rfl,b0⟩:=h0.i64_inv;obtain⟨n1,rfl,b1⟩:=h1.i64_inv;obtain⟨n2,rfl,b2⟩:=h2.i64_inv;obtain⟨n3,rfl,b3⟩:=h3.i64_inv;obtain⟨n4,rfl,b4⟩:=h4.i64_inv;obtain⟨n5,rfl,b5,c5⟩:=alK h5;exact⟨⟨n0,n1,n2,n3,n4,n5⟩,rfl,⟨b0,b1,b2,b3,b4,⟨b5,c5⟩⟩⟩
end Rm
namespace Rm
open Go Go.Proofs Cx
theorem Xs (k k':Int)(v:D):∀es:List (D×D),(∀e,e∈es→∃n:Int,e.1=.int n)→dI (.int k') (cQ (.int k) v es)=if k'=k then some v else dI (.int k') es
 |[],_=>by
  simp[cQ,dI]
 |e::es,h=>by
  have ih:=Xs k k' v es fun x hx=>h x (by simp[hx]);obtain⟨n,hn⟩:=h e (by simp);obtain⟨e1,e2⟩:=e;simp only at hn;subst hn;by_cases hk:k=n
  ·subst hk;by_cases lS:k'=k
   ·simp[cQ,dI,lS]
   ·simp[cQ,dI,lS]
  ·by_cases lS:k'=n
   ·subst lS;simp[cQ,dI,hk,sX hk]
   ·simp[cQ,dI,hk,lS,ih]
theorem ZM (k v:D):∀es:List (D×D),∀e,e∈cQ k v es→e.1=k∨e∈es
 |[],e,h=>by
  simp[cQ] at h;exact .inl (by rw[h])
 |x::es,e,h=>by
  unfold cQ at h;split at h
  ·rcases cD.1 h with rfl|h
   ·exact .inl rfl
   ·exact .inr (by simp[h])
  ·rcases cD.1 h with rfl|h
   ·exact .inr (by simp)
   ·rcases ZM k v es e h with h|h
    ·exact .inl h
    ·exact .inr (by simp[h])
end Rm
namespace Rm
open Go Go.Proofs Cx
def w7 (i day:Int)(a:Act):Bool:=decide (a.kind=7)&&decide (a.at_=i)&&decide (a.day≤day)
def Jy (l:List Act)(i day:Int):Bool:=l.any (w7 i day)
theorem aoq (i day:Int)(l:List Act):(dI (.int i) (gZ day l [])).getD (.bool false)=.bool (Jy l i day):=by
 have key:∀(l:List Act) (es:List (D×D)) (b:Bool),(∀e,e∈es→∃n:Int,e.1=.int n)→(dI (.int i) es).getD (.bool false)=.bool b→(dI (.int i) (gZ day l es)).getD (.bool false)=.bool (b||l.any (w7 i day)):=by
  intro l
  induction l with
  |nil=>intro es b _ h;simpa [gZ] using h
  |cons a l ih=>
   intro es b hk h;have h1:∀e,e∈(if a.kind=7∧a.day≤day then cQ (.int a.at_) (.bool true) es else es)→∃n:Int,e.1=.int n:=by
        intro e he;split at he
        ·rcases ZM _ _ _ _ he with h'|h'
         ·exact⟨_,h'⟩
         ·exact hk e h'
        ·exact hk e he
   have h2:(dI (.int i) (if a.kind=7∧a.day≤day then cQ (.int a.at_) (.bool true) es else es)).getD (.bool false)=.bool (b||w7 i day a):=by
        split
        ·rename_i hc;rw[Xs _ _ _ _ hk];by_cases hi:i=a.at_
         ·simp[hi,w7,hc]
         ·rw[if_neg hi,h];simp[w7,sX hi]
        ·rename_i hc;rw[h];have:w7 i day a=false:=by
          simp[w7];intro h7 _;have:¬a.day≤day:=fun hd=>hc ⟨h7,hd⟩;omega
         rw[this,q8]
   have:=ih _ _ h1 h2;rw[show gZ day (a::l) es=gZ day l (if a.kind=7∧a.day≤day then cQ (.int a.at_) (.bool true) es else es) from rfl,this,List.any_cons,Bool.or_assoc]
 simpa [Jy] using key l [] false (fun _ h=>by cases h) rfl
def ua (f:File)(part day:Int)(i:Nat)(s:Sign):Bool:=decide (s.kind=2)&&decide (s.part=part)&&decide (s.day≤day)&& !Jy f.acts i day
def lM (f:File)(part day:Int):List Nat:=(List.range f.signs.length).filter fun i=>ua f part day i (f.signs.getD i default)
def jq (f:File)(part day:Int)(k:Nat):List Nat:=(List.range k).filter fun i=>ua f part day i (f.signs.getD i default)
theorem UH (f:File)(part day:Int)(k:Nat):jq f part day (k+1)=jq f part day k++if ua f part day k (f.signs.getD k default) then[k] else[]:=by
 unfold jq;rw[TF,EW]
 congr 1
 have key:∀(p:Nat→Bool),List.filter p [k]=if p k then[k] else[]:=fun p=>by
  cases h:p k<;>simp[List.filter,h]
 exact key _
theorem aeK (f:File)(part day:Int){k n:Nat}(h:k≤n):∃r,jq f part day n=jq f part day k++r:=by
 induction n with
 |zero=>obtain rfl:k=0:=by omega
        exact⟨[],by simp⟩
 |succ n ih=>
  by_cases e:k=n+1
  ·subst e;exact⟨[],by simp⟩
  ·obtain⟨r,hr⟩:=ih (by omega);exact⟨r++_,by rw[UH,hr,pP]⟩
theorem UG (f:File)(part day:Int):jq f part day f.signs.length=lM f part day:=rfl
def mE (f:File)(i:Nat):D:=.tup [.int i,eQ (f.signs.getD i default)]
def hZ (f:File)(part day:Int):List (Int×Sign):=(lM f part day).map fun(i:Nat)=>((i:Int),f.signs.getD i default)
theorem UI (f:File)(part day:Int):(lM f part day).length≤f.signs.length:=by
 unfold lM;have:=sU (fun i=>ua f part day i (f.signs.getD i default)) (List.range f.signs.length);rw[EZ] at this;exact this
def yE (day:Int)(a:Act):Bool:=(decide (a.kind=1)||decide (a.kind=3)||decide (a.kind=4))&&decide (a.day≤day)
def Bu (day:Int)(x:Int×Bool)(a:Act):Int×Bool:=if yE day a then(if x.2=false∨a.day<x.1 then a.day else x.1,true) else x
def oG (day:Int)(acts:List Act):Int×Bool:=acts.foldl (Bu day) (0,false)
def Jp (b fl:Int):Int:=if tz fl 2||b !=0 then 1 else if tz fl 4 then 2 else 0
def brk (c:Chain)(s:Sign):Bool:= !c.bearer&&s.who !=c.holder
def jn (p:Int×Bool)(c:Chain)(i:Int)(s:Sign):Chain:={signs:=c.signs++[i],holder:=s.to,broken:=c.broken,bearer:=s.to==-1,agent:=Jp c.agent s.flags,late:=if p.2&&decide (p.1<s.day) then c.late++[i] else c.late}
def kq (p:Int×Bool)(c:Chain):List (Int×Sign)→Chain
 |[]=>c
 |x::l=>if brk c x.2 then {c with broken:=x.1} else kq p (jn p c x.1 x.2) l
def mC (f:File):Chain:=⟨[],f.bill.payee,-1,f.bill.payee==-1,0,[]⟩
def rA (f:File)(part day:Int):Chain:=kq (oG day f.acts) (mC f) (hZ f part day)
theorem Uj (p:Int×Bool):∀(l:List (Int×Sign)) (c:Chain),(kq p c l).signs.length≤c.signs.length+l.length∧((kq p c l).late.length≤c.late.length+l.length)
 |[],c=>by simp[kq]
 |x::l,c=>by
  unfold kq;split
  ·exact⟨Nat.le_add_right _ _,Nat.le_add_right _ _⟩
  ·have:=Uj p l (jn p c x.1 x.2);have h1:(jn p c x.1 x.2).signs.length=c.signs.length+1:=by simp[jn]
   have h2:(jn p c x.1 x.2).late.length≤c.late.length+1:=by
        simp only[jn];split<;>simp
   simp only[m8];omega
theorem adj (f:File)(part day:Int):(rA f part day).signs.length≤f.signs.length∧(rA f part day).late.length≤f.signs.length:=by
 have h:=Uj (oG day f.acts) (hZ f part day) (mC f);have h2:=UI f part day;have h3:(hZ f part day).length=(lM f part day).length:=by unfold hZ;rw[gw]
 have h4:(mC f).signs.length=0∧(mC f).late.length=0:=⟨rfl,rfl⟩
 unfold rA;omega
end Rm
namespace Rm
open Go Go.Proofs Cx
theorem aeL (f:File)(part day:Int):Lv [.ref (aY f),.ref (.int day),.ref (.int part)]=(lM f part day).map (mE f):=by
 have e1:((D.ref (aY f)).deref.c 15).l=f.signs.map eQ:=rfl;have e2:((D.ref (aY f)).deref.c 17).l=f.acts.map gN:=rfl;unfold Lv lM;simp only[sS,AU,e1,e2,gw]
 have key:∀i,i<f.signs.length→(f.signs.map eQ).getD i .none=eQ (f.signs.getD i default):=fun i hi=>by
  simp[aK,hi]
 have hf:((List.range f.signs.length).filter fun(i:Nat)=>decide ((((f.signs.map eQ).getD i .none).c 0).i=2)&&decide ((((f.signs.map eQ).getD i .none).c 1).i=(D.ref (D.int part)).deref.i)&&decide ((((f.signs.map eQ).getD i .none).c 6).i≤(D.ref (D.int day)).deref.i)&&
  !((f.acts.map gN).any fun a=>decide ((a.c 0).i=7)&&decide ((a.c 4).i=(i:Int))&&decide ((a.c 6).i≤(D.ref (D.int day)).deref.i)))=(List.range f.signs.length).filter fun i=>ua f part day i (f.signs.getD i default):=by
  apply List.filter_congr;intro i hi;rw[key i (bX.1 hi),List.any_map];rfl
 rw[hf];apply uY;intro i hi;rw[key i (bX.1 (du.1 hi).1)];rfl
set_option maxRecDepth 10000 in
theorem aeJ (f:File)(part day:Int)(h1:f.acts.length≤1000)(h2:f.signs.length≤1000):ao T 64 [.ref (aY f),.ref (.int day),.ref (.int part)] (.list ((lM f part day).map (mE f))):=by
 have qq:=aeL f part day;rw[←qq];refine ao.of_it (pc:=(ae rz)) (J:=1000) (k:=2) rfl (fun x hx=>?_) (fun m hm=>?_)
 ·rw[qq] at hx;obtain⟨i,_,rfl⟩:=eO.1 hx;exact⟨_,rfl,rfl⟩
 ·rw[qq] at hm ⊢;refine JL ?_;rw[aqD];simp[SG];refine⟨_,(abA f day (by omega)).yld (by decide),?_⟩;refine aT.forLoop (α:=Nat) (fun k vr vo=>k≤f.signs.length∧vr=[.int k]∧vo=[.list ((jq f part day k).map (mE f))]∧(jq f part day k).length≤m) (fun k=>f.signs.length-k) 0 ?_ ?_
  ·simp[aeS,jq]
  ·rintro k vr vo ⟨hk,rfl,rfl,hc⟩;by_cases af:k<f.signs.length
   ·have fS:IntKind.i64.wrap ((k:Int)+1)=(k:Int)+1:=bV (by omega);have hg:f.signs.getD k default=f.signs[k]:=by simp[af]
    have ah1:=aoq k day f.acts;have qg:(((f.signs[k].kind=2∧f.signs[k].part=part)∧f.signs[k].day≤day)∧Jy f.acts k day=false)↔ua f part day k (f.signs.getD k default)=true:=by
     rw[hg];simp[ua]
    have iu:=UH f part day k;obtain⟨r,hr⟩:=aeK f part day (k:=k+1) (n:=f.signs.length) af;rw[UG] at hr;simp[aaC,Jh,af,fS,ah1];by_cases hi:ua f part day k (f.signs.getD k default)=true
    ·have tF:=qg.2 hi;rw[if_pos hi] at iu;have hlen:(jq f part day (k+1)).length=(jq f part day k).length+1:=by rw[iu];simp
     have rX:(jq f part day k).map (mE f)++[D.tup [D.int k,eQ f.signs[k]]]=(jq f part day (k+1)).map (mE f):=by
      rw[iu,rf,List.map_singleton];unfold mE;rw[hg]
     have CW:(jq f part day (k+1)).map (mE f)=((lM f part day).map (mE f)).take ((jq f part day k).length+1):=by
      rw[hr,rf,List.take_append_of_le_length (by simp[hlen]),AX (by simp[hlen])]
     have aW:(jq f part day k).length<((lM f part day).map (mE f)).length:=by
      rw[hr];simp[hlen];omega
     simp only[tF,rX,and_self,if_true,true_and];refine⟨_,ao.answer CW aW hc,?_⟩;by_cases nu:(jq f part day k).length<m
     ·rw[if_neg (by simp[nu])];exact⟨k+1,by omega,by omega,by simp,rfl,by omega⟩
     ·obtain rfl:(jq f part day k).length=m:=by omega
      rw[if_pos (by simp),CW]
    ·have tF:=fun h=>hi (qg.1 h);rw[if_neg hi,lC] at iu;rw[if_neg tF,if_neg tF,if_neg (fun h=>tF h.1)];exact⟨k+1,by omega,by omega,by simp,by rw[iu],by rw[iu];exact hc⟩
   ·obtain rfl:k=f.signs.length:=by omega
    simp[aaC,Jh];rw[UG] at hc ⊢;rw[AX (by simp;omega)]
set_option maxRecDepth 10000 in
theorem adS (f:File)(day:Int)(hf:f.acts.length≤1000):ao T 29 [aY f,.int day] (.tup [.int (oG day f.acts).1,.bool (oG day f.acts).2]):=by
 refine .of_tree rfl (lA 92 (by kernel_rfl)) aqC ?_;simp[SD];refine aT.forRounds f.acts.length (fun k=>[.int (oG day (f.acts.take k)).1,.bool (oG day (f.acts.take k)).2,.int k]) (fun k=>[]) ?_ (fun k hk=>?_) ?_
 ·simp;exact⟨rfl,rfl⟩
 ·have fS:IntKind.i64.wrap ((k:Int)+1)=(k:Int)+1:=bV (by omega);have hs:oG day (f.acts.take (k+1))=Bu day (oG day (f.acts.take k)) f.acts[k]:=by
   unfold oG;rw[m9 hk,JX];rfl
  rw[hs];generalize oG day (f.acts.take k)=x;simp[aaB,Jg,hk,fS];generalize f.acts[k]=a;split
  ·rename_i h;have hd:yE day a=false:=by
        cases e:yE day a with
        |false=>rfl
        |true=>simp[yE] at e;omega
   simp[Bu,hd]
  ·rename_i h;have hd:yE day a=true:=by
        simp[yE];omega
   by_cases h2:x.2=false∨a.day<x.1
   ·simp[Bu,hd,h2]
   ·simp[Bu,hd,h2];cases e:x.2 with
    |true=>rfl
    |false=>exact absurd (.inl e) h2
 ·simp[aaB,Jg]
theorem anV (b fl:Int):ao T 31 [.int b,.int fl] (.int (Jp b fl)):=by
 refine .of_tree rfl (lA 95 (by kernel_rfl)) aqF ?_;simp[SH,Jp,tz];split
 ·rename_i h;by_cases h1:cX .and .i64 fl 2=0
  ·simp[h1] at h;simp[h]
  ·simp[h1]
 ·rename_i h;by_cases h1:cX .and .i64 fl 2=0
  ·simp[h1] at h;simp[h1,h]
  ·simp[h1] at h
theorem aeN (f:File)(part day:Int):ao T 30 [aY f,.int part,.int day] (.clo 64 [.ref (aY f),.ref (.int day),.ref (.int part)]):=by
 refine .of_tree rfl (lA 93 (by kernel_rfl)) aqE ?_;simp[SF]
theorem aeM (f:File)(part day:Int)(k:Nat)(y:D)(h:((lM f part day).map (mE f))[k]?=some y):∃x:Int×Sign,(hZ f part day).drop k=x::(hZ f part day).drop (k+1)∧y=.tup [.int x.1,eQ x.2]:=by
 rw[cw,az] at h;obtain⟨i,hi,rfl⟩:=h;refine⟨((i:Int),f.signs.getD i default),?_,rfl⟩;have af:=(eh.1 hi).1;have hl:k<(hZ f part day).length:=by unfold hZ;rw[gw];exact af
 rw[JT hl]
 congr 1
 have e2:(hZ f part day)[k]?=some ((i:Int),f.signs.getD i default):=by
  unfold hZ;rw[cw,hi];rfl
 rw[bA hl] at e2;exact u9 e2
set_option maxRecDepth 10000 in
theorem adk (ρ:Env)(f:File)(part day:Int)(p:Int×Bool)(h2:f.signs.length≤1000)(h77:ρ.r 77=.list ((lM f part day).map (mE f)))(a0 a5:D)(h7:ρ.o 7=.agg [a0,.int f.bill.payee,.int (-1),.bool (f.bill.payee==-1),.int 0,a5])
 (h41:ρ.o 4103=.list []) (h24:ρ.o 24583=.list []) (h8:ρ.o 8=.agg [.int p.1]) (h9:ρ.o 9=.agg [.bool p.2]) {Q:Out→Prop}
 (hQ:∀(ρ':Env) (b0 b5:D),ρ'.o 4103=ints (kq p (mC f) (hZ f part day)).signs→ρ'.o 24583=ints (kq p (mC f) (hZ f part day)).late→
   ρ'.o 7=.agg [b0,.int (kq p (mC f) (hZ f part day)).holder,.int (kq p (mC f) (hZ f part day)).broken,.bool (kq p (mC f) (hZ f part day)).bearer,.int (kq p (mC f) (hZ f part day)).agent,b5]→
   (∀j,j≠11→j≠4103→j≠24583→j≠7→ρ'.o j=ρ.o j)→Q (.next ρ')∧Q (.exit 0 ρ')):aT T (UB E9) ρ Q:=by
 have hlen:=UI f part day
 refine aT.eachR ((lM f part day).map (mE f)) (by simp[h77]) (fun k vo=>∃c:Chain,∃Tb b0 b5,c.broken=-1∧kq p (mC f) (hZ f part day)=kq p c ((hZ f part day).drop k)∧c.signs.length≤k∧c.late.length≤k∧
  vo=[Tb,ints c.signs,ints c.late,.agg [b0,.int c.holder,.int c.broken,.bool c.bearer,.int c.agent,b5]]) ?_ ?_ ?_
 ·exact⟨mC f,ρ.o 11,a0,a5,rfl,by simp,bf _,bf _,by simp[h7,h41,h24,mC,ints]⟩
 ·rintro k y vo hy ⟨c,Tb,b0,b5,hb,ah,G7,Ma,rfl⟩;have hk:k<f.signs.length:=by
   have:=(eh.1 hy).1;rw[gw] at this;omega
  obtain⟨⟨i,s⟩,hd,rfl⟩:=aeM f part day k y hy;rw[hd] at ah;simp only[kq] at ah;simp[anC,Qj,h8,h9];split
  ·rename_i G6;have L6:brk c s=true:=by simp[brk,G6.1,G6.2]
   rw[if_pos L6] at ah;rw[ah] at hQ;refine⟨by decide,(hQ _ b0 b5 ?_ ?_ ?_ ?_).2⟩
   ·simp
   ·simp
   ·simp[cl]
   ·intro j h1 h2 h3 h4;simp[h1,h2,h3,h4]
  ·rename_i G6;have L6:¬brk c s=true:=by simpa [brk] using G6
   rw[if_neg L6] at ah;refine⟨by omega,.int (Jp c.agent s.flags),?_,?_⟩
   ·simp[cl,D.cells_none];exact anV _ _
   split
   ·rename_i tN;refine⟨by omega,jn p c i s,hb,ah,by simp[jn];omega,by simp[jn,tN.1,tN.2];omega,by simp[jn,ints],by simp[jn,ints,tN.1,tN.2],.none,.none,?_⟩;simp[cl,D.cells_none,jn,hb]
   ·rename_i tN;have hl:(if p.2&&decide (p.1<s.day) then c.late++[i] else c.late)=c.late:=if_neg (by simpa using tN);refine⟨jn p c i s,hb,ah,by simp[jn];omega,by simp only[jn,hl];omega,by simp[jn,ints],by simp only[jn,hl],.none,b5,?_⟩;simp[cl,D.cells_none,jn,hb]
 ·rintro vo ⟨c,Tb,b0,b5,hb,ah,G7,Ma,rfl⟩;have:(hZ f part day).drop ((lM f part day).map (mE f)).length=[]:=by
   rw[JU];unfold hZ;simp
  rw[this] at ah;simp only[kq] at ah;rw[ah] at hQ;refine(hQ _ b0 b5 ?_ ?_ ?_ ?_).1
  ·simp
  ·simp
  ·simp
  ·intro j h1 h2 h3 h4;simp[h1,h2,h3,h4]
set_option maxRecDepth 10000 in
theorem Tq (f:File)(part day:Int)(h1:f.acts.length≤1000)(h2:f.signs.length≤1000):ao T 12 [aY f,.int part,.int day] (yI (rA f part day)):=by
 refine .of_tree rfl (lA 91 (by kernel_rfl)) aqA ?_;simp[SB];refine⟨_,adS f day h1,_,aeN f part day,64,_,rfl,_,aeJ f part day h1 h2,?_⟩;refine adk _ f part day (oG day f.acts) h2 (by simp) (.list []) (.list []) (by simp[cl]) (by simp) (by simp) (by simp[cl]) (by simp[cl]) (fun ρ' b0 b5 g1 g2 g3 _=>?_);simp[g1,g2,g3];constructor<;>rfl
end Rm
namespace Rm
open Go Go.Proofs Cx
@[simp] theorem axc:D.none.b=false:=_root_.id rfl
theorem eD (n a b:Int):ao T 68 [.int n,.int a,.int b] (.bool (wi n a b)):=by
 refine .of_tree rfl (lA 28 (by kernel_rfl)) aps ?_;simp[Rs];by_cases h:a≤n<;>simp[wi,h]
theorem m5 (n m:Int):ao T 86 [.int n,.int m] (.bool (aD n m)):=by
 refine .of_tree rfl (lA 24 (by kernel_rfl)) aqI ?_;simp[SK];by_cases h:0≤n<;>simp[aD,h]
def JD (b:Bill):Bool:=
 if b.tenor.kind=0∨b.tenor.kind=4 then decide (b.tenor.n=0)&&decide (b.tenor.unit=0)
 else if b.tenor.kind=1∨b.tenor.kind=2 then(decide (1≤b.tenor.n)&&decide (b.tenor.n≤400))&&(decide (b.tenor.unit=0)||decide (b.tenor.unit=1))
 else if b.tenor.kind=3 then(decide (b.day≤b.tenor.n)&&decide (b.tenor.n≤100000))&&decide (b.tenor.unit=0)
 else false
theorem aq8 (b:Bill):ao T 87 [fK b] (.bool (JD b)):=by
 refine .of_tree rfl (lA 25 (by kernel_rfl)) aqJ ?_;unfold JD;simp[SL];by_cases h0:b.tenor.kind=0
 ·by_cases h1:b.tenor.n=0<;>simp[h0,h1]
 by_cases h4:b.tenor.kind=4
 ·by_cases h1:b.tenor.n=0<;>simp[h4,h1]
 simp[h0,h4];by_cases k1:b.tenor.kind=1
 ·by_cases h1:1≤b.tenor.n<;>by_cases h2:b.tenor.n≤400<;>by_cases h3:b.tenor.unit=0<;>simp[k1,h1,h2,h3]
 by_cases k2:b.tenor.kind=2
 ·by_cases h1:1≤b.tenor.n<;>by_cases h2:b.tenor.n≤400<;>by_cases h3:b.tenor.unit=0<;>simp[k2,h1,h2,h3]
 simp[k1,k2];by_cases k3:b.tenor.kind=3
 ·by_cases h1:b.day≤b.tenor.n<;>by_cases h2:b.tenor.n≤100000<;>simp[k3,h1,h2]
 simp[k3]
def sl (n m:Int):Bool:=decide (n=-1)||aD n m
def xc (r:Realm)(b:Bill):Bool:=((aD b.drawer r.firms.length&&aD b.drawee r.firms.length)&&sl b.payee r.firms.length)&&sl b.need r.firms.length
def uS (r:Realm)(b:Bill):Bool:=(aD b.currency r.currencies.length&&aD b.city r.cities.length)&&aD b.pay r.cities.length
def wT (b:Bill):Prop:=((((1≤b.sum∧b.sum≤1099511627776)∧0≤b.day)∧b.day≤100000)∧0≤b.rate)∧b.rate≤1000
def LL (b:Bill):Prop:=((0≤b.flags∧b.flags≤7)∧(cX .and .i64 b.flags 4=0∨¬b.payee=-1))∧JD b=true
structure BillOK (r:Realm) (b:Bill):Prop where
 realm:lK r=0
 who:xc r b=true
 where_:uS r b=true
 range:wT b
 parts:1≤b.parts∧b.parts≤4
 form:LL b
 usance:b.tenor.kind=4→∃u,u∈r.usances∧u.fr=b.city∧u.to=b.pay
def oh (P:Prop)(d:D):Prop:=∃e:Int,d=.int e∧(e=0↔P)
theorem oh.no {P:Prop}{e:Int}(h:¬P)(he:e≠0):oh P (.int e):=⟨e,rfl,fun x=>absurd x he,fun x=>absurd x h⟩
theorem oh.ok {P:Prop}(h:P):oh P (.int 0):=⟨0,rfl,fun _=>h,fun _=>rfl⟩
theorem aq7 (r:Realm)(hs:Small r)(b:Bill):∃d,ao T 66 [ba r,fK b] d∧oh (BillOK r b) d:=by
 refine ao.ex_of_tree rfl acN aqH ?_;simp[SJ];refine⟨_,anD r hs,?_⟩;by_cases h0:lK r=0
 case neg=>
  simp[h0];exact .no (fun h=>h0 h.realm) h0
 simp[h0];refine⟨_,m5 _ _,?_⟩;cases h1:aD b.drawer r.firms.length
 ·simp;exact .no (fun h=>by simpa [xc,h1] using h.who) (by decide)
 simp;refine⟨_,m5 _ _,?_⟩;cases h2:aD b.drawee r.firms.length
 ·simp;exact .no (fun h=>by simpa [xc,h2] using h.who) (by decide)
 by_cases h3:sl b.payee r.firms.length=true
 case neg=>
  have eT:¬b.payee=-1∧aD b.payee r.firms.length=false:=by simpa [sl] using h3
  simp[eT.1];refine⟨_,m5 _ _,?_⟩;simp[eT.2];exact .no (fun h=>h3 (by have:=h.who;simp[xc] at this;exact this.1.2)) (by decide)
 by_cases h4:sl b.need r.firms.length=true
 case neg=>
  have rO:¬b.need=-1∧aD b.need r.firms.length=false:=by simpa [sl] using h4
  have dZ:oh (BillOK r b) (.int 1):=.no (fun h=>h4 (by have:=h.who;simp[xc] at this;exact this.2)) (by decide);by_cases hp:b.payee=-1
  ·simp[hp,rO.1];refine⟨_,m5 _ _,?_⟩;simp[rO.2];exact dZ
  ·have eT:aD b.payee r.firms.length=true:=by simpa [sl,hp] using h3
   simp[hp];refine⟨_,m5 _ _,?_⟩;simp[eT,rO.1];refine⟨_,m5 _ _,?_⟩;simp[rO.2];exact dZ
 have HL:xc r b=true:=by simp[xc,h1,h2,h3,h4]
 have hp:b.payee=-1∨(¬b.payee=-1∧aD b.payee r.firms.length=true):=by
  by_cases e:b.payee=-1
  ·exact .inl e
  ·exact .inr ⟨e,by simpa [sl,e] using h3⟩
 have hn:b.need=-1∨(¬b.need=-1∧aD b.need r.firms.length=true):=by
  by_cases e:b.need=-1
  ·exact .inl e
  ·exact .inr ⟨e,by simpa [sl,e] using h4⟩
 have bad:¬uS r b=true→oh (BillOK r b) (.int 1):=fun h=>.no (fun k=>h k.where_) (by decide);have fin:∀u:Int,(u=0↔∃u,u∈r.usances∧u.fr=b.city∧u.to=b.pay)→wT b→(1≤b.parts∧b.parts≤4)→LL b→uS r b=true→oh (BillOK r b) (if b.tenor.kind=4 then .int u else .int 0):=by
  intro u hu h6 h7 h8 h9;by_cases e:b.tenor.kind=4
  ·rw[if_pos e];exact⟨u,rfl,fun h=>⟨h0,HL,h9,h6,h7,h8,fun _=>hu.1 h⟩,fun h=>hu.2 (h.usance e)⟩
  ·rw[if_neg e];exact .ok ⟨h0,HL,h9,h6,h7,h8,fun h=>absurd h e⟩
 obtain⟨un,ue,hu1,_,hu2⟩:=acg r b.city b.pay (by have:=hs.us;omega);rcases hp with hp|⟨hp,eW⟩<;>rcases hn with hn|⟨hn,oT⟩
 case' inl.inl=>simp[hp,hn]
 case' inl.inr=>simp[hp,hn];refine⟨_,m5 _ _,?_⟩;simp[oT]
 case' inr.inl=>simp[hp,hn];refine⟨_,m5 _ _,?_⟩;simp[eW]
 case' inr.inr=>simp[hp,hn];refine⟨_,m5 _ _,?_⟩;simp[eW];refine⟨_,m5 _ _,?_⟩;simp[oT]
 all_goals
  refine⟨_,m5 _ _,?_⟩;cases h5:aD b.currency r.currencies.length
  ·simp;exact bad (by simp[uS,h5])
  simp;refine⟨_,m5 _ _,?_⟩;cases h6:aD b.city r.cities.length
  ·simp;exact bad (by simp[uS,h6])
  simp;refine⟨_,m5 _ _,?_⟩;cases h7:aD b.pay r.cities.length
  ·simp;exact bad (by simp[uS,h7])
  have C2:uS r b=true:=by simp[uS,h5,h6,h7]
  simp;by_cases h8:wT b
  case neg=>
   have LS:((((b.sum<1∨1099511627776<b.sum)∨b.day<0)∨100000<b.day)∨b.rate<0)∨1000<b.rate:=by unfold wT at h8;omega
   rw[if_pos LS];exact .no (fun k=>h8 k.range) (by decide)
  have LS:¬(((((b.sum<1∨1099511627776<b.sum)∨b.day<0)∨100000<b.day)∨b.rate<0)∨1000<b.rate):=by unfold wT at h8;omega
  rw[if_neg LS];by_cases h9:1≤b.parts∧b.parts≤4
  case neg=>
   rw[if_pos (by omega)];exact .no (fun k=>h9 k.parts) (by decide)
  rw[if_neg (by omega)];have Kl:¬LL b→oh (BillOK r b) (.int 2):=fun h=>.no (fun k=>h k.form) (by decide);by_cases g1:0≤b.flags∧b.flags≤7
  case neg=>
   have eR:b.flags<0∨7<b.flags:=by omega
   simp[g1,eR];exact Kl (fun h=>g1 h.1.1)
  have eR:¬(b.flags<0∨7<b.flags):=by omega
  by_cases g2:cX .and .i64 b.flags 4=0∨¬b.payee=-1
  case neg=>
   have np:¬cX .and .i64 b.flags 4=0∧b.payee=-1:=by simpa using g2
   first
        |exact absurd np.2 hp
        |(simp[g1,eR,np]
          exact Kl (fun h=>g2 h.1.2))
  have g3:(b.payee=-1→cX .and .i64 b.flags 4=0):=fun e=>g2.resolve_right (fun h=>h e);simp[g1,eR,hp,g3];refine⟨_,aq8 b,?_⟩;cases nq:JD b
  ·simp;exact Kl (fun h=>by have:=h.2;rw[nq] at this;cases this)
  have hf:=fin ue hu2 h8 h9 ⟨⟨g1,g2⟩,nq⟩ C2;simp;by_cases e:b.tenor.kind=4
  ·simp[e] at hf ⊢;exact⟨_,hu1,hf⟩
  ·simp[e] at hf ⊢;exact hf
end Rm
namespace Rm
open Go Go.Proofs Cx
def AD (f:File)(i part:Int):Bool:=decide (i=0)||decide ((eE f i).part=part)
theorem ZD (f:File)(i part:Int)(h:i=0∨(0≤i∧i<f.signs.length)):ao T 118 [aY f,.int i,.int part] (.bool (AD f i part)):=by
 refine .of_tree rfl (lA 31 (by kernel_rfl)) apu ?_;unfold AD;by_cases h0:i=0
 ·simp[JI,h0]
 ·obtain⟨h1,h2⟩:=h.resolve_left h0;have h3:i.toNat<f.signs.length:=by omega
  simp[JI,h0,h1,h2,h3,eE]
def Fa (f:File)(i:Int)(kinds:List Int):Bool:=wi (eE f i).for_ 0 (i-1)&&(AD f (eE f i).for_ (eE f i).part&&hasB kinds (eE f (eE f i).for_).kind)
theorem amC (f:File)(i:Int)(kinds:List Int)(h:0≤i∧i<f.signs.length)(hl:f.signs.length≤100000)(hk:kinds.length≤100):ao T 117 [aY f,.int i,ints kinds] (.bool (Fa f i kinds)):=by
 refine .of_tree rfl (lA 30 (by kernel_rfl)) apo ?_;have h1:i.toNat<f.signs.length:=by omega
 have hw:IntKind.i64.wrap (i-1)=i-1:=bV (by omega);have hs:eE f i=f.signs[i.toNat]:=by simp[eE,h1]
 unfold Fa;rw[hs];simp[Rp,h,h1,hw];refine⟨_,eD _ _ _,?_⟩;cases hb:wi f.signs[i.toNat].for_ 0 (i-1)
 ·simp
 ·have bD:0≤f.signs[i.toNat].for_∧f.signs[i.toNat].for_<f.signs.length:=by
   simp[wi] at hb;omega
  have h2:f.signs[i.toNat].for_.toNat<f.signs.length:=by omega
  have eY:eE f f.signs[i.toNat].for_=f.signs[f.signs[i.toNat].for_.toNat]:=by simp[eE,h2]
  rw[eY];simp;refine⟨_,ZD f _ _ (.inr bD),?_⟩;cases cn:AD f f.signs[i.toNat].for_ f.signs[i.toNat].part
  ·simp
  simp[bD,h2];exact AR kinds _ (by omega)
def U0 (r:Realm)(b:Bill)(s:Sign)(B:List Int→Bool):Bool:=
 if s.kind=0 then((((decide (s.who=b.drawer)&&decide (s.sum=0))&&decide (cX .or .i64 s.flags 1=1))&&decide (s.part=0))&&decide (s.day=b.day))&&decide (s.city=b.city)
 else if s.kind=1 then decide (s.who=b.drawee)&&(wi s.sum 1 1099511627776&&decide (s.flags=0))
 else if s.kind=2 then((wi s.to (-1) ((r.firms.length:Int)-1)&&decide (s.sum=0))&&wi s.flags 0 7)&&decide (cX .and .i64 s.flags 6≠6)
 else if s.kind=3 then(decide (s.sum=0)&&decide (s.flags=0))&&B [0,1,2,4]
 else if s.kind=4 then((wi s.sum 1 1099511627776&&decide (s.flags=0))&&decide (s.who≠b.drawee))&&B [0,2]
 else false
def LI (r:Realm)(b:Bill)(i:Nat)(s:Sign)(B:List Int→Bool):Bool:=
 if ¬(i=0↔s.kind=0)∨(¬s.kind=2∧¬s.to=-1) then false
 else if(¬s.kind=3∧¬s.kind=4)∧¬s.for_=-1 then false
 else U0 r b s B
def GH (r:Realm)(f:File)(i:Nat):Bool:=LI r f.bill i (f.signs.getD i default) (Fa f i)
theorem amE (r:Realm)(hr:Small r)(f:File)(i:Nat)(h:i<f.signs.length)(hl:f.signs.length≤100000):ao T 89 [ba r,aY f,.int i] (.bool (GH r f i)):=by
 refine .of_tree rfl (lA 29 (by kernel_rfl)) apr ?_;have kQ:=hr.firms;have hw:IntKind.i64.wrap ((r.firms.length:Int)-1)=(r.firms.length:Int)-1:=bV (by omega);have hs:f.signs.getD i default=f.signs[i]:=by simp[h]
 have L5:=fun ks hk=>amC f i ks ⟨by omega,by omega⟩ hl hk;unfold GH;rw[hs];generalize hB:Fa f i=B at L5 ⊢;generalize hX:LI r f.bill i f.signs[i] B=X;simp[Rr,h];generalize f.signs[i]=s at*;unfold LI at hX;by_cases h1:¬(i=0↔s.kind=0)∨(¬s.kind=2∧¬s.to=-1)
 ·rw[if_pos h1] at hX ⊢;exact hX.symm
 rw[if_neg h1] at hX ⊢;by_cases h2:(¬s.kind=3∧¬s.kind=4)∧¬s.for_=-1
 ·rw[if_pos h2] at hX ⊢;exact hX.symm
 rw[if_neg h2] at hX ⊢;refine⟨_,eD _ _ _,?_⟩;unfold U0 at hX;by_cases k0:s.kind=0
 ·rw[if_pos k0] at hX ⊢;rw[←hX];by_cases a:(((s.who=f.bill.drawer∧s.sum=0)∧cX BinOp.or IntKind.i64 s.flags 1=1)∧s.part=0)∧s.day=f.bill.day
  ·simp[a]
  ·rw[if_neg a]
   congr 1
   rw[eq_comm,To];intro e;simp at e;exact a e.1
 rw[if_neg k0] at hX ⊢;by_cases k1:s.kind=1
 ·rw[if_pos k1] at hX ⊢;rw[←hX];by_cases a:s.who=f.bill.drawee<;>cases wi s.sum 1 1099511627776<;>simp[a]
 rw[if_neg k1] at hX ⊢;by_cases k2:s.kind=2
 ·rw[if_pos k2] at hX ⊢;rw[←hX,hw];refine⟨_,eD _ _ _,?_⟩;cases wi s.to (-1) ((r.firms.length:Int)-1)
  ·simp
  by_cases a:s.sum=0
  case neg=>simp[a]
  simp[a];refine⟨_,eD _ _ _,?_⟩;cases wi s.flags 0 7<;>simp
 rw[if_neg k2] at hX ⊢;by_cases k3:s.kind=3
 ·rw[if_pos k3] at hX ⊢;rw[←hX];by_cases a:s.sum=0∧s.flags=0
  case neg=>
   rw[if_neg a,if_neg a]
   congr 1
   rw[eq_comm,To];intro e;simp at e;exact a e.1
  rw[if_pos a];refine⟨_,L5 [0,1,2,4] (by decide),?_⟩;simp[a]
 rw[if_neg k3] at hX ⊢;by_cases k4:s.kind=4
 ·rw[if_pos k4] at hX ⊢;rw[←hX];cases wi s.sum 1 1099511627776
  ·simp
  by_cases a:s.flags=0∧¬s.who=f.bill.drawee
  case neg=>
   simp[a]
  simp[a];exact L5 [0,2] (by decide)
 rw[if_neg k4] at hX ⊢;exact hX.symm
end Rm
namespace Rm
open Go Go.Proofs Cx
def tu (f:File)(i:Nat):Int:=if i=0 then f.bill.day else(f.signs.getD (i-1) default).day
def JN (f:File)(i:Nat)(s:Sign):Bool:=(f.signs.take i).any fun x=>(decide (s.kind=1)&&decide (x.kind=1))&&decide (x.part=s.part)
def EE (r:Realm)(f:File)(i:Nat):Int:=
 let s:=f.signs.getD i default
 if wi s.part 0 (f.bill.parts-1)=false then 15
 else if aD s.who r.firms.length=false∨aD s.city r.cities.length=false then 1
 else if wi s.day (tu f i) 100000=false∨(i=0∧¬s.day=tu f i) then 13
 else if GH r f i=false then 14
 else if JN f i s=true then 5 else 0
theorem ZC (r:Realm)(hr:Small r)(f:File)(hp:1≤f.bill.parts∧f.bill.parts≤4)(i:Nat)(h:i<f.signs.length)(hl:f.signs.length≤100000):ao T 67 [ba r,aY f,.int i] (.int (EE r f i)):=by
 refine .of_tree rfl (lA 27 (by kernel_rfl)) apt ?_;have kQ:=hr.firms;have hci:=hr.cities;have fS:IntKind.i64.wrap ((r.firms.length:Int)-1)=(r.firms.length:Int)-1:=bV (by omega);have dg:IntKind.i64.wrap ((r.cities.length:Int)-1)=(r.cities.length:Int)-1:=bV (by omega);have C0:IntKind.i64.wrap (f.bill.parts-1)=f.bill.parts-1:=bV (by omega);have hs:f.signs.getD i default=f.signs[i]:=by simp[h]
 generalize hX:EE r f i=X;unfold EE at hX;simp only[hs] at hX;simp[Rt,h,fS,dg,C0];refine⟨_,eD _ _ _,?_⟩;cases a1:wi f.signs[i].part 0 (f.bill.parts-1)
 ·simpa [a1] using hX
 simp[a1] at hX ⊢;refine⟨_,eD _ _ _,?_⟩;rw[mN] at hX;cases a2:wi f.signs[i].who 0 ((r.firms.length:Int)-1)
 ·simpa [a2] using hX
 simp[a2] at hX ⊢;refine⟨_,eD _ _ _,?_⟩;rw[mN] at hX;cases a3:wi f.signs[i].city 0 ((r.cities.length:Int)-1)
 ·simpa [a3] using hX
 simp[a3] at hX ⊢;refine⟨by omega,?_⟩;have Ht:min i f.signs.length=i:=by omega
 refine aT.forRounds i (fun k=>[.int (tu f k),.bool ((f.signs.take k).any fun x=>(decide (f.signs[i].kind=1)&&decide (x.kind=1))&&decide (x.part=f.signs[i].part)),.int k]) (fun _=>[]) ?_ (fun k hk=>?_) ?_
 ·simp[tu]
 ·have hw:=br hk (by omega);have bn:k<f.signs.length:=by omega
  have hf:tu f (k+1)=f.signs[k].day:=by simp[tu,bn]
  rw[m9 bn,List.any_append];generalize ((f.signs.take k).any fun x=>(decide (f.signs[i].kind=1)&&decide (x.kind=1))&&decide (x.part=f.signs[i].part))=A;simp[aau,I6,hk,bn,h,hw,hf,Ht];cases A
  ·by_cases e1:f.signs[i].kind=1<;>by_cases e2:f.signs[k].kind=1<;>simp[e1,e2]
  ·simp
 ·have ht:JN f i f.signs[i]=true↔∃x,x∈List.take i f.signs∧(f.signs[i].kind=1∧x.kind=1)∧x.part=f.signs[i].part:=by simp[JN]
  simp[aau,I6,Ht,h];refine⟨_,eD _ _ _,?_⟩;by_cases a4:wi f.signs[i].day (tu f i) 100000=false∨(i=0∧¬f.signs[i].day=tu f i)
  ·rw[if_pos a4] at hX;rw[if_pos (by simpa using a4)];exact hX
  rw[if_neg a4] at hX;rw[if_neg (by simpa using a4)];refine⟨_,amE r hr f i h hl,?_⟩;cases a5:GH r f i
  ·simpa [a5] using hX
  simp[a5] at hX;simp only[adP,if_true];rw[←hX];by_cases a6:JN f i f.signs[i]=true
  ·rw[if_pos a6,if_pos (ht.1 a6)]
  ·rw[if_neg a6,if_neg (fun x=>a6 (ht.2 x))]
def E4 (a:Act)(to at_ own:Bool):Bool:=
 if a.kind=0∨a.kind=1∨a.kind=2 then(to&&decide (a.at_=-1))&&decide (a.sum=0)
 else if a.kind=3∨a.kind=4∨a.kind=5 then((to&&decide (a.at_=-1))&&wi a.sum 0 1099511627776)&&wi a.form 0 1
 else if a.kind=6 then(to&&own)&&wi a.sum 1 1099511627776
 else if a.kind=9 then(decide (a.to=-1)&&own)&&decide (a.sum=0)
 else(decide (a.to=-1)&&at_)&&decide (a.sum=0)
def A3 (f:File)(a:Act):Bool:=aD a.at_ f.signs.length&&AD f a.at_ a.part
def OI (f:File)(a:Act):Bool:=A3 f a&&decide ((eE f a.at_).who=a.who)
def sZ (r:Realm)(f:File)(a:Act):Bool:=
 if aD a.who r.firms.length=false∨(¬a.kind=4∧¬a.form=0) then false else E4 a (aD a.to r.firms.length) (A3 f a) (OI f a)
theorem amA (r:Realm)(hr:Small r)(f:File)(a:Act)(hl:f.signs.length≤100000):ao T 90 [ba r,aY f,gN a] (.bool (sZ r f a)):=by
 refine .of_tree rfl (lA 35 (by kernel_rfl)) apm ?_;have kQ:=hr.firms;have fS:IntKind.i64.wrap ((r.firms.length:Int)-1)=(r.firms.length:Int)-1:=bV (by omega);have dg:IntKind.i64.wrap ((f.signs.length:Int)-1)=(f.signs.length:Int)-1:=bV (by omega);generalize hX:sZ r f a=X;unfold sZ OI A3 at hX;simp[Rn,fS,dg];refine⟨_,eD _ _ _,?_⟩;rw[←mN];have zj:=eD a.to 0 ((r.firms.length:Int)-1);have C2:=eD a.who 0 ((r.firms.length:Int)-1);rw[←mN] at zj C2;generalize aD a.to r.firms.length=tt at*;generalize aD a.who r.firms.length=ww at*;have fin:∀at_ own:Bool,(if ww=false∨(¬a.kind=4∧¬a.form=0) then false else E4 a tt at_ own)=X→
  if ww=false∨(¬a.kind=4∧¬a.form=0) then X=false
  else if a.kind=0∨a.kind=1∨a.kind=2 then(if tt=true∧a.at_=-1 then D.bool (decide (a.sum=0)) else D.bool false)=D.bool X
  else if a.kind=3∨a.kind=5∨a.kind=4 then
        if tt=true∧a.at_=-1 then
         ∃d,ao (dM tab ext) 68 [D.int a.sum,D.int 0,D.int 1099511627776] d∧
          if(tt=true∧a.at_=-1)∧d.b=true then
             ∃Bs,ao (dM tab ext) 68 [D.int a.form,D.int 0,D.int 1] Bs∧(if(tt=true∧a.at_=-1)∧d.b=true then Bs else D.bool false)=D.bool X
          else(if(tt=true∧a.at_=-1)∧d.b=true then D.none else D.bool false)=D.bool X
        else D.bool false=D.bool X
  else if a.kind=6 then
        if tt=true∧own=true then ∃Bs,ao (dM tab ext) 68 [D.int a.sum,D.int 1,D.int 1099511627776] Bs∧(if tt=true∧own=true then Bs else D.bool false)=D.bool X
        else(if tt=true∧own=true then D.none else D.bool false)=D.bool X
  else if a.kind=9 then(if a.to=-1∧own=true then D.bool (decide (a.sum=0)) else D.bool false)=D.bool X
  else(if a.to=-1∧at_=true then D.bool (decide (a.sum=0)) else D.bool false)=D.bool X:=by
  intro at_ own hX;by_cases p:ww=false∨(¬a.kind=4∧¬a.form=0)
  ·rw[if_pos p] at hX ⊢;exact hX.symm
  rw[if_neg p] at hX ⊢;unfold E4 at hX;by_cases k0:a.kind=0∨a.kind=1∨a.kind=2
  ·rw[if_pos k0] at hX ⊢;rw[←hX];by_cases e:tt=true∧a.at_=-1
   ·simp[e]
   ·rw[if_neg e];cases tt<;>simp at e ⊢;simp[e]
  rw[if_neg k0] at hX ⊢;by_cases k3:a.kind=3∨a.kind=4∨a.kind=5
  ·rw[if_pos k3] at hX;rw[if_pos (by omega),←hX];by_cases e:tt=true∧a.at_=-1
   ·rw[if_pos e];refine⟨_,eD _ _ _,?_⟩;cases wi a.sum 0 1099511627776
    ·simp
    ·simp[e];exact eD _ _ _
   ·rw[if_neg e];cases tt<;>simp at e ⊢;simp[e]
  rw[if_neg k3] at hX;rw[if_neg (by omega)];by_cases k6:a.kind=6
  ·rw[if_pos k6] at hX ⊢;rw[←hX];by_cases e:tt=true∧own=true
   ·rw[if_pos e];refine⟨_,eD _ _ _,?_⟩;simp[e]
   ·rw[if_neg e,if_neg e];cases tt<;>cases own<;>simp at e ⊢
  rw[if_neg k6] at hX ⊢;by_cases k9:a.kind=9
  ·rw[if_pos k9] at hX ⊢;rw[←hX];cases own<;>by_cases e:a.to=-1<;>simp[e]
  rw[if_neg k9] at hX ⊢;rw[←hX];cases at_<;>by_cases e:a.to=-1<;>simp[e]
 cases h1:aD a.at_ f.signs.length
 ·have hf:=fin false false (by simpa [h1] using hX);simp at hf ⊢;refine⟨_,zj,_,C2,?_⟩;simpa using hf
 have cK:0≤a.at_∧a.at_<f.signs.length:=by simpa [aD] using h1
 have h2:a.at_.toNat<f.signs.length:=by omega
 have hs:eE f a.at_=f.signs[a.at_.toNat]:=by simp[eE,h2]
 simp[cK];refine⟨_,ZD f _ _ (.inr cK),_,zj,_,C2,?_⟩;rw[h1,hs] at hX;have hf:=fin _ _ hX;cases h3:AD f a.at_ a.part
 ·rw[h3] at hf;simpa using hf
 ·rw[h3] at hf;simpa [h2] using hf
theorem H7 (a b:Int):(if a<b then b else a)=max a b:=by split<;>omega
theorem NQ (a b:Int):(if a<b then D.int b else D.int a)=D.int (max a b):=by
 rw[←H7];split<;>rfl
def Nx (f:File)(i:Nat)(a:Act):Int:=
 let x:=if a.at_=-1 then f.bill.day else max f.bill.day (eE f a.at_).day
 if i=0 then x else max x (f.acts.getD (i-1) default).day
def s9 (r:Realm)(f:File)(i:Nat):Int:=
 let a:=f.acts.getD i default
 if wi a.part 0 (f.bill.parts-1)=false then 15
 else if aD a.city r.cities.length=false∨wi a.kind 0 9=false then 1
 else if sZ r f a=false then 14
 else if wi a.day (Nx f i a) 100000=false then 13 else 0
theorem TO {r:Realm}{f:File}{a:Act}(h:sZ r f a=true)(hn:¬a.at_=-1):0≤a.at_∧a.at_<f.signs.length:=by
 unfold sZ at h;split at h
 ·cases h
 have key:A3 f a=true→0≤a.at_∧a.at_<f.signs.length:=fun e=>by
  unfold A3 at e;simp only[ak] at e;simpa [aD] using e.1
 unfold E4 OI at h
 repeat' split at h
 all_goals simp only[ak,decide_eq_true_eq] at h
 ·exact absurd h.1.2 hn
 ·exact absurd h.1.1.2 hn
 ·exact key h.1.2.1
 ·exact key h.1.2.1
 ·exact key h.1.2
theorem amB (r:Realm)(hr:Small r)(f:File)(hp:1≤f.bill.parts∧f.bill.parts≤4)(hl:f.signs.length≤100000)(Cs:f.acts.length≤100000):ao T 69 [ba r,aY f] (.int (fq f.acts.length (s9 r f))):=by
 refine .of_tree rfl (lA 34 (by kernel_rfl)) apn ?_;have hci:=hr.cities;have dg:IntKind.i64.wrap ((r.cities.length:Int)-1)=(r.cities.length:Int)-1:=bV (by omega);have C0:IntKind.i64.wrap (f.bill.parts-1)=f.bill.parts-1:=bV (by omega);simp[Ro];refine nY f.acts.length (s9 r f) (fun k=>[.int 0,.int k]) (fun _=>[]) ?_ (fun k hk ho=>?_) (fun k hk ho hb=>?_) (fun hj=>?_)
 ·simp
 case' refine_2=>have hb:s9 r f k=s9 r f k:=rfl
 case' refine_3=>rw[hb]
 case refine_4=>simp[aas,I4,hj]
 all_goals
  have hw:=br hk (by omega);have hs:f.acts.getD k default=f.acts[k]:=by simp[hk]
  clear hb;generalize hX:s9 r f k=X at*;unfold s9 at hX;simp only[hs] at hX;simp[aas,I4,hk,dg,C0,hw];refine⟨_,eD _ _ _,?_⟩;cases a1:wi f.acts[k].part 0 (f.bill.parts-1)
  ·simp[a1] at hX ⊢
   first|exact hX|(exfalso;omega)
  simp[a1] at hX ⊢;refine⟨_,eD _ _ _,?_⟩;rw[mN] at hX;cases a2:wi f.acts[k].city 0 ((r.cities.length:Int)-1)
  ·simp[a2] at hX ⊢
   first|exact hX|(exfalso;omega)
  simp[a2] at hX ⊢;refine⟨_,eD _ _ _,?_⟩;cases a3:wi f.acts[k].kind 0 9
  ·simp[a3] at hX ⊢
   first|exact hX|(exfalso;omega)
  simp[a3] at hX ⊢;refine⟨_,amA r hr f f.acts[k] hl,?_⟩;cases a4:sZ r f f.acts[k]
  ·simp[a4] at hX ⊢
   first|exact hX|(exfalso;omega)
  simp[a4] at hX ⊢;unfold Nx at hX;by_cases k0:k=0
  ·subst k0;by_cases e1:f.acts[0].at_=-1
   ·simp[e1] at hX;simp[e1];refine⟨_,eD _ _ _,?_⟩;split at hX
    ·rename_i e;simp[e]
     first|exact hX|(exfalso;omega)
    ·rename_i e
     first|(exfalso;omega)|simp[e]
   ·obtain⟨h5,h6⟩:=TO a4 e1;have h7:f.acts[0].at_.toNat<f.signs.length:=by omega
    have h8:eE f f.acts[0].at_=f.signs[f.acts[0].at_.toNat]:=by simp[eE,h7]
    simp[e1,h8] at hX;simp[e1,h5,h6,h7,NQ,H7];refine⟨_,eD _ _ _,?_⟩;split at hX
    ·rename_i e;simp[e]
     first|exact hX|(exfalso;omega)
    ·rename_i e
     first|(exfalso;omega)|simp[e]
  ·have bt:IntKind.i64.wrap ((k:Int)-1)=(k:Int)-1:=bV (by omega);have cu:((k:Int)-1).toNat=k-1:=by omega
   have lR:k-1<f.acts.length:=by omega
   have y9:0<k:=by omega
   by_cases e1:f.acts[k].at_=-1
   ·simp[k0,e1,lR] at hX;simp[e1,y9,bt,cu,lR,NQ,H7];refine⟨by omega,_,eD _ _ _,?_⟩;split at hX
    ·rename_i e;simp[e]
     first|exact hX|(exfalso;omega)
    ·rename_i e
     first|(exfalso;omega)|simp[e]
   ·obtain⟨h5,h6⟩:=TO a4 e1;have h7:f.acts[k].at_.toNat<f.signs.length:=by omega
    have h8:eE f f.acts[k].at_=f.signs[f.acts[k].at_.toNat]:=by simp[eE,h7]
    simp[k0,e1,lR,h8] at hX;simp[e1,y9,bt,cu,lR,h5,h6,h7,NQ,H7];refine⟨by omega,_,eD _ _ _,?_⟩;split at hX
    ·rename_i e;simp[e]
     first|exact hX|(exfalso;omega)
    ·rename_i e
     first|(exfalso;omega)|simp[e]
end Rm
namespace Rm
open Go Go.Proofs Cx
def oC (a b:Int):Int:=if a<b then-1 else if b<a then 1 else 0
theorem WR (a:Int):ao T 119 [.int a] (.bool false):=by
 refine .of_tree rfl (lA 38 (by kernel_rfl)) aoW ?_;simp[QX]
theorem Ts (a b:Int):ao T 92 [.int a,.int b] (.int (oC a b)):=by
 refine .of_tree rfl (lA 37 (by kernel_rfl)) aoU ?_;simp[QV];refine⟨_,WR a,_,WR b,?_⟩;unfold oC;by_cases h1:a<b
 ·simp[h1]
 by_cases h2:b<a<;>simp[h1,h2]
theorem ace (l:List Int)(hl:l.length≤100000):ao T 91 [ints l] (.int (fq l.length fun k=>l.getD k 0)):=by
 refine .of_tree rfl (lA 39 (by kernel_rfl)) aoV ?_;simp[QW];refine nY l.length (fun k=>l.getD k 0) (fun k=>[.int 0,.int k]) (fun _=>[]) ?_ (fun k hk ho=>?_) (fun k hk ho hb=>?_) (fun hj=>?_)
 ·simp
 ·have hw:=br hk (by omega);have hx:l[k]=0:=by simpa [hk] using ho
  simp[Pr,DE,hk,hx,hw]
 ·have hx:¬l[k]=0:=by simpa [hk] using ho
  simp only[aK] at hb ⊢;rw[hb];simp[Pr,DE,hk,hx]
 ·simp only[aK] at hj ⊢;rw[hj];simp[Pr,DE]
theorem or2 (a b:Int):(fq 2 fun k=>[a,b].getD k 0)=if a=0 then b else a:=by
 have e:List.range 2=[0,1]:=rfl;unfold fq;rw[e];by_cases ha:a=0<;>by_cases hb:b=0<;>simp[ha,hb]
def xq (x y:Fact):Prop:=x.at_<y.at_∨(x.at_=y.at_∧x.kind<y.kind)
instance (x y:Fact):Decidable (xq x y):=by unfold xq;infer_instance
theorem acv (x y:Fact):0≤(if oC x.at_ y.at_=0 then oC x.kind y.kind else oC x.at_ y.at_)↔¬xq x y:=by
 unfold oC xq
 repeat' split
 all_goals omega
def vy (f:File)(i:Nat):Int:=
 let x:=f.facts.getD i default
 if wi x.kind 0 4=false then 1 else if aD x.at_ f.signs.length=false then 1 else if wi x.n 0 1=false then 1
 else if i=0 then 0 else if xq (f.facts.getD (i-1) default) x then 0 else 5
theorem amD (f:File)(hl:f.signs.length≤100000)(hlf:f.facts.length≤100000):ao T 70 [aY f] (.int (fq f.facts.length (vy f))):=by
 refine .of_tree rfl (lA 36 (by kernel_rfl)) apq ?_;have dg:IntKind.i64.wrap ((f.signs.length:Int)-1)=(f.signs.length:Int)-1:=bV (by omega);simp[Rq];refine nY f.facts.length (vy f) (fun k=>[.int 0,.int k]) (fun _=>[]) ?_ (fun k hk ho=>?_) (fun k hk ho hb=>?_) (fun hj=>?_)
 ·simp
 case' refine_2=>have hb:vy f k=vy f k:=rfl
 case' refine_3=>rw[hb]
 case refine_4=>simp[aat,I5,hj]
 all_goals
  have hw:=br hk (by omega);have hs:f.facts.getD k default=f.facts[k]:=by simp[hk]
  clear hb;generalize hX:vy f k=X at*;unfold vy at hX;simp only[hs] at hX;simp[aat,I5,hk,dg,hw];refine⟨_,eD _ _ _,?_⟩;cases a1:wi f.facts[k].kind 0 4
  ·simp[a1] at hX ⊢
   first|exact hX|(exfalso;omega)
  simp[a1] at hX ⊢;refine⟨_,eD _ _ _,?_⟩;rw[mN] at hX;cases a2:wi f.facts[k].at_ 0 ((f.signs.length:Int)-1)
  ·simp[a2] at hX ⊢
   first|exact hX|(exfalso;omega)
  simp[a2] at hX ⊢;refine⟨_,eD _ _ _,?_⟩;cases a3:wi f.facts[k].n 0 1
  ·simp[a3] at hX ⊢
   first|exact hX|(exfalso;omega)
  simp[a3] at hX ⊢;by_cases k0:k=0
  ·subst k0;simp at hX ⊢
   first|(exfalso;omega)|done
  ·have bt:IntKind.i64.wrap ((k:Int)-1)=(k:Int)-1:=bV (by omega);have cu:((k:Int)-1).toNat=k-1:=by omega
   have lR:k-1<f.facts.length:=by omega
   simp[k0,lR] at hX;simp[k0,bt,cu,lR];refine⟨by omega,_,Ts _ _,_,Ts _ _,?_⟩;have ho:=ace [oC f.facts[k-1].at_ f.facts[k].at_,oC f.facts[k-1].kind f.facts[k].kind] (by simp);simp only[m8,xn] at ho;rw[or2] at ho;refine⟨_,ho,?_⟩;have ha:=acv f.facts[k-1] f.facts[k];generalize (if oC f.facts[k-1].at_ f.facts[k].at_=0 then oC f.facts[k-1].kind f.facts[k].kind else oC f.facts[k-1].at_ f.facts[k].at_)=n at*;clear ho;by_cases e:xq f.facts[k-1] f.facts[k]
   ·have hn:¬0≤n:=fun h=>ha.1 h e;simp[e] at hX;simp[hn]
    first|done|(exfalso;omega)
   ·have hn:0≤n:=ha.2 e;simp[e] at hX;simp[hn]
    first|exact hX|(exfalso;omega)
def xt (f:File)(i:Nat):Int:=
 let x:=f.alters.getD i default
 if wi x.at_ ((if i=0 then 0 else(f.alters.getD (i-1) default).at_)+1) f.signs.length=false then 1 else if wi x.sum 1 1099511627776=false then 3 else 0
structure PaperOK (r:Realm) (f:File):Prop where
 full:(f.signs.length≤40∧f.alters.length≤4)∧f.acts.length≤100∧f.facts.length≤200
 bill:BillOK r f.bill
 ne:f.signs≠[]
 signs:fq f.signs.length (EE r f)=0
 alters:fq f.alters.length (xt f)=0
 acts:fq f.acts.length (s9 r f)=0
 facts:fq f.facts.length (vy f)=0
theorem ZB (r:Realm)(hs:Small r)(f:File)(vC:f.OK):∃d,ao T 36 [ba r,aY f] d∧oh (PaperOK r f) d:=by
 refine ao.ex_of_tree rfl acM apl ?_;simp[Rm];by_cases hf:(f.signs.length≤40∧f.alters.length≤4)∧f.acts.length≤100∧f.facts.length≤200
 case neg=>
  rw[if_pos (by omega)];exact .no (fun h=>hf h.full) (by decide)
 rw[if_neg (by omega)];obtain⟨d,hb,e,rfl,he⟩:=aq7 r hs f.bill;refine⟨_,hb,?_⟩;by_cases e0:e=0
 case neg=>
  simp[e0];exact .no (fun h=>e0 (he.2 h.bill)) e0
 have B9:=he.1 e0;simp[e0];by_cases aB:f.signs=[]
 ·simp[aB];exact .no (fun h=>h.ne aB) (by decide)
 simp[aB];refine nY f.signs.length (EE r f) (fun k=>[.int 0,.int k]) (fun _=>[]) ?_ (fun k hk ho=>?_) (fun k hk ho hb=>?_) (fun hj=>?_)
 ·simp
 ·have hw:=br hk (by omega);simp[Pw,DI,hk,hw];refine⟨_,ZC r hs f B9.parts k hk (by omega),?_⟩;simp[ho]
 ·simp[Pw,DI,hk];refine⟨_,ZC r hs f B9.parts k hk (by omega),?_⟩;simp[ho];exact .no (fun h=>ho (by rw[←hb];exact h.signs)) ho
 simp[Pw,DI];have kD:∀k,k<f.alters.length→(∀j,j<k→xt f j=0)→IntKind.i64.wrap ((if k=0 then 0 else(f.alters.getD (k-1) default).at_)+1)=(if k=0 then 0 else(f.alters.getD (k-1) default).at_)+1:=by
  intro k hk hj;refine bV ?_;by_cases k0:k=0
  ·rw[if_pos k0];omega
  ·rw[if_neg k0];have h1:=hj (k-1) (by omega);have bt:k-1<f.alters.length:=by omega
   have h2:=(vC.2.2.1.2 _ (dA bt)).1;have h3:f.alters.getD (k-1) default=f.alters[k-1]:=by simp[bt]
   unfold xt at h1;rw[h3] at h1 ⊢;simp only at h1;generalize (if k-1=0 then(0:Int) else(f.alters.getD (k-1-1) default).at_)=L0 at h1;split at h1
   ·cases h1
   ·rename_i hh;simp[wi] at hh;unfold aN at h2;omega
 refine aT.scan f.alters.length (fun k=>xt f k=0) (fun k=>[.int 0,.int (if k=0 then 0 else(f.alters.getD (k-1) default).at_),.int k]) (fun _=>[]) ?_ (fun k hk qk ho=>?_) (fun k hk qk ho=>?_) (fun vL=>?_)
 ·simp
 ·have hw:=br hk (by omega);have hl:=kD k hk qk;generalize hL:(if k=0 then 0 else(f.alters.getD (k-1) default).at_)=L at*;have hs:f.alters.getD k default=f.alters[k]:=by simp[hk]
  unfold xt at ho;simp only[hs,hL] at ho;simp[Px,DJ,hk,hl];refine⟨_,eD _ _ _,?_⟩;cases a1:wi f.alters[k].at_ (L+1) f.signs.length
  ·simp[a1] at ho
  simp[a1] at ho ⊢;refine⟨_,eD _ _ _,?_⟩;simp[ho,hw]
 ·have hl:=kD k hk qk;have Cj:=LF hk qk ho;generalize hL:(if k=0 then 0 else(f.alters.getD (k-1) default).at_)=L at*;have hs:f.alters.getD k default=f.alters[k]:=by simp[hk]
  have bad:∀e:Int,e≠0→oh (PaperOK r f) (.int e):=fun e h=>.no (fun h=>ho (by rw[←Cj];exact h.alters)) h;unfold xt at ho;simp only[hs,hL] at ho;simp[Px,DJ,hk,hl];refine⟨_,eD _ _ _,?_⟩;cases a1:wi f.alters[k].at_ (L+1) f.signs.length
  ·simp;exact bad 1 (by decide)
  simp[a1] at ho ⊢;refine⟨_,eD _ _ _,?_⟩;simp[ho];exact bad 3 (by decide)
 have vL:=LG vL;simp[Px,DJ];refine⟨_,amB r hs f B9.parts (by omega) (by omega),?_⟩;by_cases e3:fq f.acts.length (s9 r f)=0
 case neg=>
  simp[e3];exact .no (fun h=>e3 h.acts) e3
 simp[e3];refine⟨_,amD f (by omega) (by omega),?_⟩;exact⟨_,rfl,fun h=>⟨hf,B9,aB,hj,vL,e3,h⟩,fun h=>h.facts⟩
end Rm
namespace Rm
open Go Go.Proofs Cx
theorem acB (o:Order)(q:Int)(cs:List Cell)(hq:(lu q).1=0)(hk:(pW o q cs).1.known=true):0≤(pW o q cs).1.n∧(pW o q cs).1.n≤20000:=by
 unfold pW at hk ⊢;split at hk
 ·cases hk
 ·rename_i h;rw[if_neg h];simp only at hk ⊢;split at hk
  ·rename_i h2;rw[if_pos h2];simp only;omega
  ·rename_i h2;exact absurd ⟨hq,hk⟩ h2
theorem acK (r:Realm)(ar q:Int)(c:Case)(hq:(lu q).1=0)(hk:(oy r ar q c).cell.known=true):0≤(oy r ar q c).cell.n∧(oy r ar q c).cell.n≤20000:=by
 unfold oy at hk ⊢;split at hk
 ·rename_i h;exfalso;have:(iJ r ar q c).1.cell=ed:=by
   unfold iJ
   repeat' split
   all_goals rfl
  rw[this] at hk;cases hk
 ·rename_i h;rw[if_neg h];exact acB _ _ _ hq hk
theorem X1 (r:Realm)(ar q:Int)(c:Case)(hq:(lu q).1=0):uj (oy r ar q c)=-1∨(0≤uj (oy r ar q c)∧uj (oy r ar q c)≤20000):=by
 unfold uj;split
 ·exact .inl rfl
 ·rename_i h;refine .inr (acK r ar q c hq ?_);cases e:(oy r ar q c).cell.known
  ·exact absurd (.inr e) h
  ·rfl
def fm:List Objection→Int→Bool
 |[],last=>decide (last≤100000)
 |c::l,last=> !decide (c.day<last)&&fm l c.day
def gH (last day:Int)(o:Objection):Bool:=o.shows&&decide (o.day≤last)&&decide (o.day≤day)
def ke (right:Bool)(je notice term:Int)(title:Bool)(cs:List Objection)(day:Int):Int:=
 if right=false∨day<je then 0 else if term=-1∨title=false then 0 else if cs.any (gH (notice+term) day)=true then 0 else if notice+term<day then 1 else 2
theorem aoj {right:Bool}{je notice term:Int}{title:Bool}{cs:List Objection}{day d:Int}(hd:day≤d)(hx:je≤day):
 ke right je notice term title cs day=ke right je notice term title cs d∨ke right je notice term title cs day=2:=by
 unfold ke;by_cases h1:right=false
 ·simp[h1]
 have a1:¬(right=false∨day<je):=by simp only[not_or];exact⟨h1,by omega⟩
 have a2:¬(right=false∨d<je):=by simp only[not_or];exact⟨h1,by omega⟩
 rw[if_neg a1,if_neg a2];by_cases h2:term=-1∨title=false
 ·rw[if_pos h2,if_pos h2];exact .inl rfl
 rw[if_neg h2,if_neg h2];by_cases h3:cs.any (gH (notice+term) day)=true
 ·have h4:cs.any (gH (notice+term) d)=true:=by
   obtain⟨o,ho,hs⟩:=jL.1 h3;refine jL.2 ⟨o,ho,?_⟩;simp[gH] at hs ⊢;exact⟨hs.1,by omega⟩
  rw[if_pos h3,if_pos h4];exact .inl rfl
 rw[if_neg h3];by_cases h5:notice+term<day
 ·have h4:¬cs.any (gH (notice+term) d)=true:=by
   intro h;obtain⟨o,ho,hs⟩:=jL.1 h;refine h3 (jL.2 ⟨o,ho,?_⟩);simp[gH] at hs ⊢;exact⟨hs.1,by omega⟩
  rw[if_neg h4,if_pos h5,if_pos (by omega)];exact .inl rfl
 ·rw[if_neg h5];exact .inr rfl
theorem aoi {right:Bool}{je notice term:Int}{title:Bool}{cs:List Objection}{day:Int}(hx:day<je):ke right je notice term title cs day=0:=by
 unfold ke;rw[if_pos (.inr hx)]
theorem aon {right:Bool}{je notice term:Int}{title:Bool}{cs:List Objection}{day:Int}(ht:term=-1∨0≤term)(h:ke right je notice term title cs day=1):notice<day∧right=true:=by
 unfold ke at h;split at h
 ·cases h
 rename_i h1;split at h
 ·cases h
 rename_i h2;split at h
 ·cases h
 split at h
 ·refine⟨by omega,?_⟩;cases right
  ·exact absurd (.inl rfl) h1
  ·rfl
 ·cases h
theorem aol {right:Bool}{je notice term:Int}{title:Bool}{cs:List Objection}{day:Int}(h:ke right je notice term title cs day=2):right=true∧je≤day∧term≠-1∧title=true∧(¬cs.any (gH (notice+term) day)=true)∧day≤notice+term:=by
 unfold ke at h;split at h
 ·cases h
 rename_i h1;split at h
 ·cases h
 rename_i h2;split at h
 ·cases h
 rename_i h3;split at h
 ·cases h
 rename_i h4;refine⟨?_,by omega,by omega,?_,h3,by omega⟩
 ·cases right
  ·exact absurd (.inl rfl) h1
  ·rfl
 ·cases title
  ·exact absurd (.inr rfl) h2
  ·rfl
theorem aok {je notice term:Int}{cs:List Objection}{day:Int}(hx:je≤day)(ht:term≠-1):ke true je notice term true cs day=if cs.any (gH (notice+term) day)=true then 0 else if notice+term<day then 1 else 2:=by
 unfold ke;rw[if_neg (by simp;omega),if_neg (by simp;exact ht)]
theorem adO:∀{l:List Objection} {a b:Int},a≤b→fm l b=true→fm l a=true
 |[],a,b,h,hd=>by simp[fm] at hd ⊢;omega
 |c::l,a,b,h,hd=>by simp[fm] at hd ⊢;exact⟨by omega,hd.2⟩
theorem Us (day:Int):∀(l:List Objection) (a:Int),fm l a=true→fm (l.filter fun c=>decide (c.day≤day)) a=true
 |[],a,h=>h
 |c::l,a,h=>by
  simp only[fm,ak,gd,decide_eq_false_iff_not] at h;have ih:=Us day l c.day h.2;by_cases hc:c.day≤day
  ·rw[TA,if_pos (by simpa using hc)];simp only[fm,ak,gd,decide_eq_false_iff_not];exact⟨h.1,ih⟩
  ·rw[TA,if_neg (by simpa using hc)];exact adO (by omega) ih
theorem Ut:∀(l m:List Objection) (a:Int),l.map (·.day)=m.map (·.day)→fm l a=fm m a
 |[],[],a,_=>rfl
 |[],_::_,a,h=>by cases h
 |_::_,[],a,h=>by cases h
 |c::l,d::m,a,h=>by
  simp only[gx,List.cons.injEq] at h;simp only[fm,h.1,Ut l m _ h.2]
end Rm
namespace Rm
open Go Go.Proofs Cx
@[simp] theorem auF (f:Nat)(l:List D):(D.clo f l).cells=[D.clo f l]:=_root_.id rfl
theorem abY (l:List Objection)(f:Nat)(caps:List D)(g:Nat→Bool)(hg:∀k (hk:k<l.length),ao T f (jR l[k]::caps) (.bool (g k)))(hl:l.length≤4294967296):
 ao T 71 [mT l,.clo f caps] (.int (lZ l.length g)):=by
 refine .of_tree rfl (lA 47 (by kernel_rfl)) aqi ?_;simp[Si];refine .scan l.length (fun k=>g k=false) (fun k=>[.int 0,.int k]) (fun _=>[]) ?_ (fun k hk hj ho=>?_) (fun k hk hj ho=>?_) (fun hj=>?_)
 ·simp
 ·have hw:=br hk hl;simp[Qb,Eh,hk,hw];refine⟨_,_,⟨rfl,rfl⟩,_,hg k hk,?_⟩;simp[ho,hw]
 ·have he:=HP hk (by simpa using ho) hj;simp[Qb,Eh,hk,he];refine⟨_,_,⟨rfl,rfl⟩,_,hg k hk,?_⟩;simp[ho]
 ·have he:=HO hj;simp[Qb,Eh,he]
theorem abU (l:List Objection)(f:Nat)(caps:List D)(g:Nat→Bool)(hg:∀k (hk:k<l.length),ao T f (jR l[k]::caps) (.bool (g k)))(hl:l.length≤4294967296):
 ao T 43 [mT l,.clo f caps] (.bool ((List.range l.length).any g)):=by
 refine .of_tree rfl (lA 46 (by kernel_rfl)) aqd ?_;simp[Sc];refine⟨_,abY l f caps g hg hl,?_⟩;have:=Nr l.length g;simp[←this]
theorem Xw (r:Realm)(n:Int):ao T 38 [ba r,.int n] (.bool (aD n r.firms.length)):=by
 refine .of_tree rfl (lA 41 (by kernel_rfl)) apg ?_;simp[Rh,aD];by_cases h:0≤n<;>simp[h]
def mD (f:File)(x:Lost):Bool:= !decide (x.day<f.bill.day)&& !decide (x.notice<x.day)&&fm x.claims x.notice
theorem aj5 (f:File)(x:Lost)(hl:x.claims.length≤1000):ao T 45 [aY f,dS x] (.bool (mD f x)):=by
 refine .of_tree rfl (lA 49 (by kernel_rfl)) apf ?_;unfold mD;simp[Rg];by_cases h1:x.day<f.bill.day
 ·simp[h1];omega
 by_cases h2:x.notice<x.day
 ·simp[h1,h2];omega
 rw[if_neg (by omega)];have hd:(!decide (x.day<f.bill.day)&& !decide (x.notice<x.day)&&fm x.claims x.notice)=fm x.claims x.notice:=by simp[h1,h2]
 rw[hd];refine aT.forLoop (α:=Nat×Int) (fun s vr vo=>s.1≤x.claims.length∧vr=[.bool false,.int s.2,.int s.1]∧vo=[]∧fm x.claims x.notice=fm (x.claims.drop s.1) s.2) (fun s=>x.claims.length-s.1) (0,x.notice) ?_ ?_
 ·simp
 ·rintro⟨k,last⟩ vr vo ⟨hk,rfl,rfl,hD⟩;simp only at hk hD;by_cases af:k<x.claims.length
  ·have hw:=br af (by omega);rw[JT af] at hD;simp only[fm] at hD;simp[aar,I3,af,hw];by_cases hc:x.claims[k].day<last
   ·rw[if_pos hc,hD];simp[hc]
   ·rw[if_neg hc];refine⟨k+1,by omega,by omega,x.claims[k].day,⟨rfl,by simp⟩,?_⟩;rw[hD];simp[hc]
  ·obtain rfl:k=x.claims.length:=by omega
   simp[aar,I3];rw[hD];simp[fm]
def w6 (r:Realm)(x:Lost):Bool:=(List.range x.claims.length).any fun k=> !aD (x.claims.getD k default).firm r.firms.length
def eB (r:Realm)(f:File)(x:Lost)(e:Int):Int:=
 if e≠0 then e else if aD x.part f.bill.parts=false then 15 else if aD x.by_ r.firms.length=false then 1 else if 20<x.claims.length then 6 else if w6 r x=true then 1 else if mD f x=false then 13 else 0
theorem HY (r:Realm)(f:File)(x:Lost)(e:Int)(he:ao T 36 [ba r,aY f] (.int e))(hl:x.claims.length≤1000):ao T 17 [ba r,aY f,dS x] (.int (eB r f x e)):=by
 refine .of_tree rfl (lA 4 (by kernel_rfl)) apd ?_;simp[Q8];refine⟨_,he,?_⟩;by_cases h0:e=0
 case neg=>simp[h0,eB]
 subst h0;simp;have c1:ao T 39 [.ref (dS x),.ref (aY f)] (.bool (!aD x.part f.bill.parts)):=by
  refine .of_tree rfl (lA 42 (by kernel_rfl)) ao8 ?_;simp[Ra,aD];by_cases h:x.part<0
  ·simp[h];try omega
  ·have h':0≤x.part:=by omega
   by_cases h2:x.part<f.bill.parts
   ·simp[h,h',h2]
   ·simp[h,h',h2];omega
 have c2:ao T 40 [.ref (ba r),.ref (dS x)] (.bool (!aD x.by_ r.firms.length)):=by
  refine .of_tree rfl (lA 43 (by kernel_rfl)) ao9 ?_;simp[Rb];exact⟨_,Xw r _,rfl⟩
 have c3:ao T 41 [.ref (dS x)] (.bool (decide (20<x.claims.length))):=by
  refine .of_tree rfl (lA 44 (by kernel_rfl)) apa ?_;simp[Rc];omega
 have c4:ao T 42 [.ref (dS x),.ref (.clo 37 [.ref (ba r)])] (.bool (w6 r x)):=by
  refine .of_tree rfl (lA 45 (by kernel_rfl)) apb ?_;simp[Rd];refine abU x.claims _ _ _ (fun k hk=>?_) (by omega);refine .of_tree rfl (lA 40 (by kernel_rfl)) ao7 ?_;simp[Q9];refine⟨_,Xw r _,?_⟩;simp[hk]
 have c5:ao T 44 [.ref (aY f),.ref (dS x)] (.bool (!mD f x)):=by
  refine .of_tree rfl (lA 48 (by kernel_rfl)) apc ?_;simp[Re];exact⟨_,aj5 f x hl,rfl⟩
 unfold eB;rw[if_neg (by decide)];refine .scan 5 (fun k=>(if k=0 then(!aD x.part f.bill.parts) else if k=1 then(!aD x.by_ r.firms.length) else if k=2 then decide (20<x.claims.length) else if k=3 then w6 r x else !mD f x)=false) (fun k=>[.int 0,.int k]) (fun _=>[]) ?_ (fun k hk hj ho=>?_) (fun k hk hj ho=>?_) (fun hj=>?_)
 ·simp
 ·have hw:=br hk (by omega);obtain rfl|rfl|rfl|rfl|rfl:k=0∨k=1∨k=2∨k=3∨k=4:=by omega
  all_goals
   simp at ho;simp[Pu,DG,cl]
  ·refine⟨_,_,⟨rfl,rfl⟩,_,c1,?_⟩;simp[ho]<;>try decide
  ·refine⟨_,_,⟨rfl,rfl⟩,_,c2,?_⟩;simp[ho]<;>try decide
  ·refine⟨_,_,⟨rfl,rfl⟩,_,c3,?_⟩;simp[show ¬20<x.claims.length by omega];decide
  ·refine⟨_,_,⟨rfl,rfl⟩,_,c4,?_⟩;simp[ho]<;>try decide
  ·refine⟨_,_,⟨rfl,rfl⟩,_,c5,?_⟩;simp[ho]<;>try decide
 ·obtain rfl|rfl|rfl|rfl|rfl:k=0∨k=1∨k=2∨k=3∨k=4:=by omega
  all_goals
   have j0:=hj 0;have j1:=hj 1;have j2:=hj 2;have j3:=hj 3;simp at ho j0 j1 j2 j3;simp[Pu,DG,cl]
  ·refine⟨_,_,⟨rfl,rfl⟩,_,c1,?_⟩;simp[ho]
  ·refine⟨_,_,⟨rfl,rfl⟩,_,c2,?_⟩;simp[ho,j0]
  ·refine⟨_,_,⟨rfl,rfl⟩,_,c3,?_⟩;simp[ho,j0,j1]
  ·refine⟨_,_,⟨rfl,rfl⟩,_,c4,?_⟩;simp[ho,j0,j1,show ¬20<x.claims.length by omega]
  ·refine⟨_,_,⟨rfl,rfl⟩,_,c5,?_⟩;simp[ho,j0,j1,j3,show ¬20<x.claims.length by omega]
 ·have j0:=hj 0 (by decide);have j1:=hj 1 (by decide);have j2:=hj 2 (by decide);have j3:=hj 3 (by decide);have j4:=hj 4 (by decide);simp at j0 j1 j2 j3 j4;simp[Pu,DG,j0,j1,j3,j4,show ¬20<x.claims.length by omega]
def eM (r:Realm)(ar:Int)(f:File)(x:Lost):Int:=uj (Fc r ar 20 f x.day)
def kA (f:File)(x:Lost):Bool:=decide ((rA f x.part x.day).holder=x.by_)&&decide ((rA f x.part x.day).broken=-1)
def eL (r:Realm)(ar:Int)(f:File)(x:Lost)(e:Int)(day:Int):Int:=
 ke (decide (eB r f x e=0)) x.day x.notice (eM r ar f x) (kA f x) x.claims day
theorem NJ (r:Realm)(hr:Right r)(ar:Int)(f:File)(hf:FewS f)(x:Lost)(hx:x.OK)(e:Int)(he:ao T 36 [ba r,aY f] (.int e))(hl:x.claims.length≤1000)(day:Int)
 (hq:(lu 20).1=0):ao T 16 [ba r,.int ar,aY f,dS x,.int day] (.int (eL r ar f x e day)):=by
 refine .of_tree rfl (lA 3 (by kernel_rfl)) ape ?_;generalize hX:eL r ar f x e day=X;unfold eL ke at hX;simp[Rf];refine⟨_,HY r f x e he hl,?_⟩;by_cases h0:eB r f x e=0
 case neg=>rw[if_pos (by simp[h0])] at hX;subst hX;simp[h0]
 by_cases h1:x.day≤day
 case neg=>rw[if_pos (.inr (by omega))] at hX;subst hX;simp[show day<x.day by omega]
 rw[if_neg (by simp[h0];omega)] at hX;simp[h0,show ¬day<x.day by omega];refine⟨_,acG r hr ar 20 f x.day hf,_,acH _,_,Tq f x.part x.day hf.acts hf.signs,?_⟩;simp;split
 ·rename_i h2;have jt:eM r ar f x=-1∨kA f x=false:=by
   rcases h2 with(h2|h2)|h2
   ·exact .inl h2
   ·exact .inr (by simp[kA,h2])
   ·exact .inr (by simp[kA,h2])
  rw[if_pos jt] at hX;exact hX
 rename_i h2;simp only[not_or,Decidable.not_not] at h2;have hh:kA f x=true:=by simp[kA,h2]
 have jt:¬(eM r ar f x=-1∨kA f x=false):=by simp only[not_or,hh];exact⟨h2.1.1,by decide⟩
 rw[if_neg jt] at hX;have hd:mD f x=true:=by
  unfold eB at h0;cases hd:mD f x
  ·rw[hd] at h0
   repeat' split at h0
   all_goals first|(cases h0;done)|omega|(rename_i hq;exact absurd rfl hq)
  ·rfl
 have hn:x.notice≤100000:=by
  simp only[mD,ak] at hd;have h2:=hd.2;have key:∀(l:List Objection) (a:Int),fm l a=true→a≤100000:=by
   intro l
   induction l with
   |nil=>intro a h;simpa [fm] using h
   |cons c l ih=>intro a h;simp[fm] at h;have:=ih _ h.2;omega
  exact key _ _ h2
 have ht:0≤eM r ar f x∧eM r ar f x≤20000:=by
  rcases X1 r ar 20 ⟨{f with facts:=[]},0,-1,-1,-1,x.day⟩ hq with h|h
  ·exact absurd (.inl h) jt
  ·exact h
 have hI:aN x.notice:=hx.2.2.2.2.1;have hw:IntKind.i64.wrap (x.notice+eM r ar f x)=x.notice+eM r ar f x:=bV (by unfold aN at hI;omega);have HK:IntKind.i64.wrap (x.notice+uj (Fc r ar 20 f x.day))=x.notice+eM r ar f x:=hw;refine .scan x.claims.length (fun k=>gH (x.notice+eM r ar f x) day (x.claims.getD k default)=false) (fun k=>[.int 0,.int k]) (fun _=>[]) ?_ (fun k hk hj ho=>?_) (fun k hk hj ho=>?_) (fun hj=>?_)
 ·simp[HK]
 ·have fS:=br hk (by omega);simp[hk,gH] at ho;simp[Pv,DH,hk,fS,HK];intro a b c;have:=ho a b;omega
 ·simp[hk,gH] at ho;have L1:x.claims.any (gH (x.notice+eM r ar f x) day)=true:=jL.2 ⟨x.claims[k],dA hk,by simp[gH,ho]⟩;rw[if_pos L1] at hX;subst hX;simp[Pv,DH,hk,HK,ho]
 ·have L1:¬x.claims.any (gH (x.notice+eM r ar f x) day)=true:=fun h=>by
   obtain⟨o,ho,hs⟩:=jL.1 h;obtain⟨k,hk,rfl⟩:=lE ho;have:=hj k hk;simp only[aK,bA hk,jj] at this;rw[hs] at this;cases this
  rw[if_neg L1] at hX;simp[Pv,DH,HK];by_cases hc:x.notice+eM r ar f x<day
  ·rw[if_pos hc] at hX ⊢;exact hX
  ·rw[if_neg hc] at hX ⊢;exact hX
end Rm
namespace Rm
open Go Go.Proofs Cx
def QF (r:Realm)(x:Lost)(day:Int)(i:Nat):Act:=⟨7,x.by_,-1,x.part,i,0,day,(r.firms.getD x.by_.toNat default).city,0⟩
def EH (g:File)(x:Lost)(held:List Int)(day:Int)(i:Nat):Bool:=
 ((decide ((g.signs.getD i default).kind=2)&&decide ((g.signs.getD i default).part=x.part))&& !hasB held (i:Int))&& !Jz g i day
def qU (r:Realm)(g:File)(x:Lost)(held:List Int)(day:Int)(k:Nat):List Act:=((List.range k).filter (EH g x held day)).map (QF r x day)
theorem aoo (r:Realm)(g:File)(x:Lost)(held:List Int)(day:Int)(k:Nat):qU r g x held day (k+1)=qU r g x held day k++if EH g x held day k=true then[QF r x day k] else[]:=by
 unfold qU;rw[TF,EW,rf]
 congr 1
 cases h:EH g x held day k<;>simp[List.filter,h]
theorem abi (r:Realm)(g:File)(x:Lost)(held:List Int)(day:Int)(k:Nat):(qU r g x held day k).length≤k:=by
 unfold qU;rw[gw];have:=sU (EH g x held day) (List.range k);rw[EZ] at this;exact this
def zF:File:=⟨⟨0,0,0,0,0,⟨0,0,0⟩,0,0,0,0,0,0,0⟩,[],[],[],[]⟩
def Ta (r:Realm)(f:File)(x:Lost)(day:Int):File:=
 {jm f day with acts:=(jm f day).acts++qU r (jm f day) x (rA f x.part x.day).signs day (jm f day).signs.length}
def pZ (r:Realm)(ar:Int)(f:File)(x:Lost)(e day:Int):File×Int:=
 if 100000<day∨eL r ar f x e day≠1 then(zF,7) else if 100<(Ta r f x day).acts.length then(zF,6) else(Ta r f x day,0)
theorem aom {r:Realm}{ar:Int}{f:File}{x:Lost}{e day:Int}(h:eL r ar f x e day=1):eB r f x e=0∧x.day≤day∧kA f x=true:=by
 unfold eL ke at h;split at h
 ·cases h
 rename_i h1;split at h
 ·cases h
 rename_i h2;simp at h1 h2;exact⟨h1.1,h1.2,h2.2⟩
theorem aj4 {r:Realm}{f:File}{x:Lost}{e:Int}(h:eB r f x e=0):0≤x.by_∧x.by_<r.firms.length:=by
 unfold eB at h;split at h
 ·omega
 split at h
 ·cases h
 split at h
 ·cases h
 rename_i h1;simpa [aD] using h1
set_option maxRecDepth 10000 in
theorem aj3 (r:Realm)(hr:Right r)(kQ:r.firms.length≤100000)(ar:Int)(f:File)(hf:FewS f)(x:Lost)(hx:x.OK)(e:Int)(he:ao T 36 [ba r,aY f] (.int e))(hl:x.claims.length≤1000)(day:Int):
 ao T 9 [ba r,.int ar,aY f,dS x,.int day] (.tup [aY (pZ r ar f x e day).1,.int (pZ r ar f x e day).2]):=by
 refine .of_tree rfl (lA 96 (by kernel_rfl)) ao6 ?_;generalize hX:pZ r ar f x e day=X;unfold pZ at hX;simp[Q7];have cn:=NJ r hr ar f hf x hx e he hl day rfl;by_cases h1:100000<day
 ·rw[if_pos (.inl h1)] at hX;subst hX;simp[h1,show ¬day≤100000 by omega,cl];rfl
 simp[h1,show day≤100000 by omega];refine⟨_,cn,?_⟩;by_cases h2:eL r ar f x e day=1
 case neg=>
  rw[if_pos (.inr h2)] at hX;subst hX;simp[h2,cl];rfl
 rw[if_neg (by simp only[not_or,Decidable.not_not];exact⟨h1,h2⟩)] at hX;obtain⟨hE,_,_⟩:=aom h2;have ns:=aj4 hE;have ag8:x.by_.toNat<r.firms.length:=by omega
 simp[h2];have avR:=hf.signs;refine⟨_,Tq f x.part x.day hf.acts hf.signs,_,aaJ f day (by have:=hf.signs;omega) (by have:=hf.acts;omega) (by have:=hf.alters;omega) (by have:=hf.facts;omega),?_⟩;have hg:Ta r f x day={jm f day with acts:=(jm f day).acts++qU r (jm f day) x (rA f x.part x.day).signs day (jm f day).signs.length}:=rfl;have VM:FewS (jm f day):=hf.at_ day;have B9:(jm f day).bill=f.bill:=rfl;rw[hg] at hX;have aW:=(adj f x.part x.day).1;generalize jm f day=g at*;generalize (rA f x.part x.day)=ch at*;have g1:=VM.signs;have g2:=VM.acts;refine aT.forRounds g.signs.length (fun k=>[.none,.int k]) (fun k=>[acts (qU r g x ch.signs day k)]) ?_ (fun k hk=>?_) ?_
 ·simp[qU,acts]
 ·have hw:=br hk (by omega);have hlen:=abi r g x ch.signs day k;have iu:=aoo r g x ch.signs day k;have hc:=AR ch.signs (k:Int) (by omega);have hs:=aoJ g (k:Int) day (by omega);have Ml:g.signs.getD k default=g.signs[k]:=by simp[hk]
  unfold EH at iu;rw[Ml] at iu;simp[aaq,I2,hk,hw,cl];by_cases a1:g.signs[k].kind=2∧g.signs[k].part=x.part
  case neg=>
   have:(decide (g.signs[k].kind=2)&&decide (g.signs[k].part=x.part))=false:=by simpa using a1
   rw[this] at iu;simp at iu;simp[a1,iu]
  simp[a1] at iu ⊢;refine⟨_,hc,?_⟩;cases a2:hasB ch.signs (k:Int)
  case true=>
   simp[a2] at iu ⊢;rw[iu]
  simp[a2] at iu ⊢;refine⟨_,hs,?_⟩;cases a3:Jz g k day
  case true=>
   simp[a3] at iu ⊢;rw[iu]
  simp[a3] at iu ⊢;rw[iu];refine⟨⟨by omega,by omega⟩,by omega,?_⟩;simp[acts,QF,gN,ag8]
 ·simp[aaq,I2];have hlen:=abi r g x ch.signs day g.signs.length;generalize qU r g x ch.signs day g.signs.length=ss at*;simp[acts];refine⟨by omega,?_⟩;by_cases h3:100<(g.acts++ss).length
  ·rw[if_pos h3] at hX;subst hX;rw[if_pos (by rw[ko] at h3;omega)];simp[cl];rfl
  ·rw[if_neg h3] at hX;subst hX;rw[if_neg (by rw[ko] at h3;omega)];simp[cl];simp[aY,acts]
end Rm
namespace Rm
open Go Go.Proofs Cx
theorem ao.of_cf {f:Nat}{pc:PC}{cf:Option PC}{ds:List D}{d:D}(n:Nat)(hx:ext f=none)(ht:tab f=some pc)(hcf:cf=some pc)(h:(cf.bind fun c=>c.ev (fun _ _=>none) n (kr ds))=some (.ret d)):ao T f ds d:=by
 subst hcf;refine⟨n+1,fun m hm=>?_⟩;obtain⟨k,rfl⟩:∃k,m=k+1:=⟨m-1,by omega⟩
 have:=PC.ev_mono (Φ:=fun _ _=>none) (Ψ:=T k) (fun f ds d h=>by cases h) (show n≤k by omega) h;show dM tab ext (k+1) f ds=some d;simp only[dM,hx,ht];rw[this]
def dz:Realm:=⟨[⟨#[102,114,97,110,99]⟩],[⟨⟨#[76,121,111,110]⟩,0,0,[],[],[]⟩],[⟨0⟩],[⟨⟨#[66,111,100,109,101,114]⟩,0,0⟩,⟨⟨#[72,111,112,101]⟩,0,0⟩,⟨⟨#[82,105,99,99,105]⟩,0,0⟩],[⟨⟨#[103,101,110,101,118,97]⟩,false,[],[⟨20,⟨0,30,[]⟩⟩]⟩],[],[],[]⟩
def W7:Bill:=⟨0,1,2,500,0,⟨0,0,0⟩,2,0,0,-1,0,0,1⟩
def dO:File:=⟨W7,[⟨0,0,0,-1,-1,0,2,0,0⟩,⟨2,0,2,-1,1,0,20,0,0⟩],[],[],[]⟩
def fD (l:List Objection):Lost:=⟨0,0,2,10,12,l⟩
theorem ajF:ao T 20 [] (.tup [ba dz,aY dO,dS (fD [])]):=ao.of_cf 20 rfl acL (aE Bn Yl) (by kernel_rfl)
theorem ajI:Small dz:=by
 refine⟨by decide,by decide,by decide,by decide,by decide,by decide,by decide,by decide,?_,?_,?_⟩
 ·intro c hc;obtain rfl:c=⟨⟨#[76,121,111,110]⟩,0,0,[],[],[]⟩:=by simpa [dz] using hc
  simp
 ·intro o ho;obtain rfl:o=⟨⟨#[103,101,110,101,118,97]⟩,false,[],[⟨20,⟨0,30,[]⟩⟩]⟩:=by simpa [dz] using ho
  simp
 ·intro x hx;simp[dz] at hx
theorem Xd:Right dz:=by
 refine⟨?_,by decide,?_⟩
 ·intro o ho;obtain rfl:o=⟨⟨#[103,101,110,101,118,97]⟩,false,[],[⟨20,⟨0,30,[]⟩⟩]⟩:=by simpa [dz] using ho
  exact⟨by decide,fun ch h=>by simp at h⟩
 ·intro o ho;obtain rfl:o=⟨⟨#[103,101,110,101,118,97]⟩,false,[],[⟨20,⟨0,30,[]⟩⟩]⟩:=by simpa [dz] using ho
  refine⟨⟨⟨by decide,fun ch h=>by simp at h⟩,by decide,?_⟩,by decide⟩;intro x hx;simp at hx;subst hx;exact⟨by unfold aN;decide,Tm.OK.mk 0 30 [] (by unfold aN;decide) (by unfold aN;decide) (by decide) (fun t h=>by cases h)⟩
theorem Xb:FewS dO:=⟨by decide,by decide,by decide,by decide⟩
theorem ajG:dO.OK:=by
 have h0:∀n:Int,(-9223372036854775808≤n∧n≤9223372036854775807)→aN n:=fun n h=>h;unfold File.OK Bill.OK Tenor.OK;simp only[H2];refine⟨?_,⟨by decide,?_⟩,⟨by decide,?_⟩,⟨by decide,?_⟩,⟨by decide,?_⟩⟩
 ·repeat' apply And.intro
  all_goals first|(exact h0 _ (by decide))|decide
 ·intro y hy;simp only[dO,cD,List.not_mem_nil,or_false] at hy;unfold Sign.OK;rcases hy with rfl|rfl
  all_goals
   repeat' apply And.intro
   all_goals first|(exact h0 _ (by decide))|decide
 ·intro y hy;simp[dO] at hy
 ·intro y hy;simp[dO] at hy
 ·intro y hy;simp[dO] at hy
theorem ajH:PaperOK dz dO:=by
 refine⟨by decide,⟨by kernel_rfl,by kernel_rfl,by kernel_rfl,by unfold wT;decide,by decide,?_,?_⟩,by decide,by kernel_rfl,by kernel_rfl,by kernel_rfl,by kernel_rfl⟩
 ·exact⟨⟨by decide,.inl (by kernel_rfl)⟩,by kernel_rfl⟩
 ·intro h;cases h
theorem NC:ao T 36 [ba dz,aY dO] (.int 0):=by
 obtain⟨d,h,e,rfl,he⟩:=ZB dz ajI dO ajG;rw[he.2 ajH] at h;exact h
theorem Xf (l:List Objection)(h:l.length≤10∧∀y,y∈l→Objection.OK y):(fD l).OK:=by
 have h0:aN 0∧aN 2∧aN 10∧aN 12:=by unfold aN;decide
 refine⟨h0.1,h0.1,h0.2.1,h0.2.2.1,h0.2.2.2,?_,h.2⟩;have:=h.1;rw[H2];show l.length≤_;omega
theorem Xc (n d:Int)(b:Bool)(hn:0≤n∧n≤1000)(hd:0≤d∧d≤1000):∀y,y∈[(⟨n,d,b⟩:Objection)]→Objection.OK y:=by
 intro y hy;simp only[pR] at hy;subst hy;exact⟨by unfold aN;simp only;omega,by unfold aN;simp only;omega⟩
theorem ud (l:List Objection)(h:l.length≤10∧∀y,y∈l→Objection.OK y)(day:Int):ao T 16 [ba dz,.int 0,aY dO,dS (fD l),.int day] (.int (eL dz 0 dO (fD l) 0 day)):=
 NJ dz Xd 0 dO Xb (fD l) (Xf l h) 0 NC (by have:=h.1;show l.length≤1000;omega) day rfl
theorem W9 (day:Int):ao T 9 [ba dz,.int 0,aY dO,dS (fD []),.int day] (.tup [aY (pZ dz 0 dO (fD []) 0 day).1,.int (pZ dz 0 dO (fD []) 0 day).2]):=by
 have h1:dz.firms.length≤100000:=by decide
 have h2:(fD []).claims.length≤1000:=by decide
 have h3:(fD []).OK:=Xf [] ⟨by decide,fun y h=>nomatch h⟩;have h4:∀(r:Realm) (f:File) (x:Lost),Right r→r.firms.length≤100000→FewS f→x.OK→ao T 36 [ba r,aY f] (.int 0)→x.claims.length≤1000→ao T 9 [ba r,.int 0,aY f,dS x,.int day] (.tup [aY (pZ r 0 f x 0 day).1,.int (pZ r 0 f x 0 day).2]):=
  fun r f x a b c d e g=>aj3 r a b 0 f c x d 0 e g day
 exact h4 _ _ _ Xd h1 Xb h3 NC h2
theorem Xa (l:List Objection)(h:l.length≤10):ao T 17 [ba dz,aY dO,dS (fD l)] (.int (eB dz dO (fD l) 0)):=
 HY dz dO (fD l) 0 NC (by show l.length≤1000;omega)
def W8:File:=⟨W7,[⟨0,0,0,-1,-1,0,2,0,0⟩,⟨2,0,2,-1,1,0,20,0,0⟩],[],[⟨7,2,-1,0,1,0,43,0,0⟩],[]⟩
set_option maxRecDepth 20000 in
set_option maxHeartbeats 2000000 in
theorem Xe:ao T 7 [] (.bool true):=by
 refine .of_tree rfl (lA 1 (by kernel_rfl)) ao5 ?_;have n0:([]:List Objection).length≤10∧∀y,y∈([]:List Objection)→Objection.OK y:=⟨by decide,fun y h=>by cases h⟩
 have n1:([⟨1,42,true⟩]:List Objection).length≤10∧∀y,y∈([⟨1,42,true⟩]:List Objection)→Objection.OK y:=⟨by decide,Xc _ _ _ (by decide) (by decide)⟩
 have n2:([⟨1,43,true⟩]:List Objection).length≤10∧∀y,y∈([⟨1,43,true⟩]:List Objection)→Objection.OK y:=⟨by decide,Xc _ _ _ (by decide) (by decide)⟩
 have s1:=ud [] n0 41;have s2:=ud [] n0 42;have s3:=ud [] n0 43;have s4:=ud [⟨1,42,true⟩] n1 41;have s5:=ud [⟨1,42,true⟩] n1 42;have s6:=ud [⟨1,42,true⟩] n1 43;have s7:=ud [⟨1,43,true⟩] n2 42;have s8:=ud [⟨1,43,true⟩] n2 43;have c1:=W9 43;have c2:=W9 42;have k1:=Xa [⟨1,43,true⟩] (by decide);have k2:=Xa [⟨1,11,true⟩] (by decide);rw[show eL dz 0 dO (fD []) 0 41=2 by kernel_rfl] at s1;rw[show eL dz 0 dO (fD []) 0 42=2 by kernel_rfl] at s2;rw[show eL dz 0 dO (fD []) 0 43=1 by kernel_rfl] at s3;rw[show eL dz 0 dO (fD [⟨1,42,true⟩]) 0 41=2 by kernel_rfl] at s4;rw[show eL dz 0 dO (fD [⟨1,42,true⟩]) 0 42=0 by kernel_rfl] at s5;rw[show eL dz 0 dO (fD [⟨1,42,true⟩]) 0 43=0 by kernel_rfl] at s6;rw[show eL dz 0 dO (fD [⟨1,43,true⟩]) 0 42=2 by kernel_rfl] at s7;rw[show eL dz 0 dO (fD [⟨1,43,true⟩]) 0 43=1 by kernel_rfl] at s8;rw[show pZ dz 0 dO (fD []) 0 43=(W8,0) by kernel_rfl] at c1;rw[show pZ dz 0 dO (fD []) 0 42=(zF,7) by kernel_rfl] at c2;rw[show eB dz dO (fD [⟨1,43,true⟩]) 0=0 by kernel_rfl] at k1;rw[show eB dz dO (fD [⟨1,11,true⟩]) 0=13 by kernel_rfl] at k2;simp[Q6];refine⟨_,ajF,?_⟩;simp;refine⟨_,s1,?_⟩;simp;refine⟨_,s2,?_⟩;simp;refine⟨_,s3,_,c1,_,c2,_,s4,?_⟩;simp;refine⟨_,s5,?_⟩;simp;refine⟨_,s6,?_⟩;simp;refine⟨_,s7,?_⟩;simp;refine⟨_,s8,?_⟩;simp;refine⟨_,k1,?_⟩;simp[cl,W8,acts,signs];refine⟨_,k2,?_⟩;simp
def yS (r:Realm)(f:File)(x:Lost):Bool:=GM r f&&decide (x.claims.length≤30)
theorem WY (r:Realm)(f:File)(x:Lost)(hr:r.OK):ao T 8 [ba r,aY f,dS x] (.bool (yS r f x)):=by
 refine .of_tree rfl (lA 98 (by kernel_rfl)) ao4 ?_;simp[Q5];refine⟨_,anf r f hr,?_⟩;unfold yS GM;cases h:rK r f
 ·simp
 simp;have hs:Small r:=by
  unfold rK at h;simp only[ak] at h;exact Lz hr h.1.1
 refine⟨_,amW r hs,?_⟩;by_cases h1:lK r=0<;>simp[h1];omega
end Rm
namespace Rm
open Go Go.Proofs Cx
end Rm
namespace Rm
open Go Go.Proofs Cx
structure ER (r:Realm) (f:File) (i:Nat) (a:Act):Prop where
 part:0≤a.part∧a.part≤f.bill.parts-1
 city:0≤a.city∧a.city<r.cities.length
 kind:0≤a.kind∧a.kind≤9
 fits:sZ r f a=true
 day:Nx f i a≤a.day∧a.day≤100000
theorem PaperOK.day {r:Realm}{f:File}(h:PaperOK r f):0≤f.bill.day∧f.bill.day≤100000:=by
 have:=h.bill.range;unfold wT at this;omega
end Rm
namespace Rm
open Go Go.Proofs Cx
theorem abx (r:Realm)(ar:Int)(f:File)(x:Lost):eM r ar f x=-1∨(0≤eM r ar f x∧eM r ar f x≤20000):=X1 r ar 20 ⟨{f with facts:=[]},0,-1,-1,-1,x.day⟩ rfl
structure LRun (r:Realm) (f:File) (e:Int):Prop where
 good:Good r f
 check:ao T 36 [ba r,aY f] (.int e)
 ok:e=0→PaperOK r f
theorem Xy {r:Realm}(hr:r.OK){f:File}(vC:f.OK){x:Lost}(h:yS r f x=true):∃e,LRun r f e∧x.claims.length≤30:=by
 unfold yS at h;simp only[ak,decide_eq_true_eq] at h;have G:=ago hr h.1;obtain⟨d,h1,e,rfl,he⟩:=ZB r G.rightD.small f vC;exact⟨e,⟨G,h1,he.1⟩,h.2⟩
theorem LRun.state {r:Realm}{f:File}{e:Int}(h:LRun r f e)(ar:Int){x:Lost}(hx:x.OK)(hl:x.claims.length≤1000)(day:Int):ao T 16 [ba r,.int ar,aY f,dS x,.int day] (.int (eL r ar f x e day)):=
 NJ r h.good.right ar f h.good.few x hx e h.check hl day rfl
theorem ab9 (r:Realm)(hr:r.OK)(ar:Int)(f:File)(vC:f.OK)(x:Lost)(hx:x.OK)(day:Int)(hd:aN day)(more:Nat)(hm:more≤65535):
 ao T 4 [ba r,.int ar,aY f,dS x,.int day,.v (.int .u16 more)] (.bool true):=by
 refine .of_tree rfl (lA 0 (by kernel_rfl)) ao1 ?_;simp[Q3];refine⟨_,Xe,_,WY r f x hr,?_⟩;cases hg:yS r f x
 ·simp
 obtain⟨e,L,hl⟩:=Xy hr vC hg;simp;intro tG;have fS:IntKind.i64.wrap (more:Int)=more:=bV (by omega);have dg:IntKind.i64.wrap (day+more)=day+more:=bV (by unfold aN at hd;omega);rw[fS,dg];have s1:=L.state ar hx (by omega) day;have s2:=L.state ar hx (by omega) (day+more);refine⟨_,s1,_,s2,?_⟩;have tN:=@aoj (decide (eB r f x e=0)) x.day x.notice (eM r ar f x) (kA f x) x.claims day (day+more) (by omega);have ajl:=@aon (decide (eB r f x e=0)) x.day x.notice (eM r ar f x) (kA f x) x.claims day ((abx r ar f x).imp id fun h=>h.1);have ag6:=@aoi (decide (eB r f x e=0)) x.day x.notice (eM r ar f x) (kA f x) x.claims day;unfold eL;generalize ke (decide (eB r f x e=0)) x.day x.notice (eM r ar f x) (kA f x) x.claims day=A at*;generalize ke (decide (eB r f x e=0)) x.day x.notice (eM r ar f x) (kA f x) x.claims (day+more)=B at*;by_cases h1:day<x.day
 ·rw[if_pos (by simpa using h1)];simp[ag6 h1]
 rw[if_neg (by simpa using h1)];have oR:=tN (by omega);have lQ:A=B∨A=2:=oR;by_cases h2:A=1
 ·obtain⟨h3,h4⟩:=ajl h2;have h5:eB r f x e=0:=by simpa using h4
  have hc:=HY r f x e L.check (by omega);rw[h5] at hc;simp[h2,h3,show ¬day≤x.notice by omega];refine⟨_,hc,?_⟩;simp;omega
 ·simp[h2];omega
def jJ (x:Lost)(day:Int):List Objection:=x.claims.filter fun c=>decide (c.day≤day)
def yL (x:Lost)(day:Int):Lost:={x with claims:=jJ x day}
def zL (x:Lost)(day firm:Int)(b:Bool):Lost:={x with claims:=jJ x day++[⟨firm,day,b⟩]}
theorem abh (r:Realm)(x:Lost):w6 r x=x.claims.any fun c=> !aD c.firm r.firms.length:=by
 unfold w6;rw[sP,jL,jL];constructor
 ·rintro⟨k,hk,h⟩;have hk:=bX.1 hk;exact⟨x.claims[k],dA hk,by simpa [hk] using h⟩
 ·rintro⟨c,hc,h⟩;obtain⟨k,hk,rfl⟩:=lE hc;exact⟨k,bX.2 hk,by simpa [hk] using h⟩
theorem NI {r:Realm}{f:File}{x:Lost}{e:Int}:eB r f x e=0↔e=0∧aD x.part f.bill.parts=true∧aD x.by_ r.firms.length=true∧x.claims.length≤20∧w6 r x=false∧mD f x=true:=by
 unfold eB;by_cases h0:e=0<;>simp[h0];cases aD x.part f.bill.parts<;>simp;cases aD x.by_ r.firms.length<;>simp;by_cases h1:20<x.claims.length
 ·simp[h1]
  try (intro h;omega)
 ·simp[h1,show x.claims.length≤20 by omega]
  try (cases w6 r x<;>simp)
  try (cases mD f x<;>simp)
theorem arb {r:Realm}{f:File}{x:Lost}{e day:Int}(h:eB r f x e=0):eB r f (yL x day) e=0:=by
 rw[NI] at h ⊢;obtain⟨h1,h2,h3,h4,h5,h6⟩:=h;refine⟨h1,h2,h3,?_,?_,?_⟩
 ·have:=sU (fun c:Objection=>decide (c.day≤day)) x.claims;show(x.claims.filter _).length≤20;omega
 ·rw[abh,List.any_eq_false] at h5 ⊢;intro c hc;exact h5 c (du.1 hc).1
 ·unfold mD at h6 ⊢;simp only[ak] at h6 ⊢;exact⟨h6.1,Us day _ _ h6.2⟩
theorem arh {r:Realm}{f:File}{x:Lost}{e day firm:Int}(h:eB r f (zL x day firm false) e=0):eB r f (zL x day firm true) e=0:=by
 rw[NI] at h ⊢;obtain⟨h1,h2,h3,h4,h5,h6⟩:=h;refine⟨h1,h2,h3,?_,?_,?_⟩
 ·simpa [zL] using h4
 ·rw[abh] at h5 ⊢;simpa [zL] using h5
 ·unfold mD at h6 ⊢;simp only[ak] at h6 ⊢;refine⟨h6.1,?_⟩;rw[Ut _ (zL x day firm false).claims _ (by simp[zL])];exact h6.2
theorem abJ (x:Lost)(day last d:Int)(h:¬x.claims.any (gH last day)=true):¬(yL x day).claims.any (gH last d)=true:=by
 intro hh;obtain⟨o,ho,hs⟩:=jL.1 hh;obtain⟨h1,h2⟩:=du.1 ho;refine h (jL.2 ⟨o,h1,?_⟩);simp[gH] at hs h2 ⊢;exact⟨hs.1,h2⟩
theorem alL {r:Realm}{ar:Int}{f:File}{x:Lost}{e day:Int}(hb:e=0→0≤f.bill.day)(ho:eL r ar f x e day=2):
 eL r ar f (yL x day) e day=2∧eL r ar f (yL x day) e (day+140000)=1∧∀firm,eB r f (zL x day firm false) e=0→
  (∀d,day≤d→eL r ar f (zL x day firm false) e d=eL r ar f (yL x day) e d∧eL r ar f (zL x day firm true) e d=0):=by
 obtain⟨h1,h2,h3,h4,h5,h6⟩:=aol ho;have hE:eB r f x e=0:=by simpa using h1
 have hy:=arb (day:=day) hE;obtain⟨e0,_,_,_,_,tH⟩:=NI.1 hE;have hb:=hb e0;have hn:f.bill.day≤x.day∧x.notice≤100000:=by
  simp only[mD,ak,gd,decide_eq_false_iff_not] at tH;have key:∀(l:List Objection) (a:Int),fm l a=true→a≤100000:=by
   intro l
   induction l with
   |nil=>intro a h;simpa [fm] using h
   |cons c l ih=>intro a h;simp[fm] at h;have:=ih _ h.2;omega
  exact⟨by omega,key _ _ tH.2⟩
 have ht:=(abx r ar f x).resolve_left h3;have st:∀(x':Lost),x'.part=x.part→x'.by_=x.by_→x'.day=x.day→x'.notice=x.notice→eB r f x' e=0→∀d,day≤d→eL r ar f x' e d=if x'.claims.any (gH (x.notice+eM r ar f x) d)=true then 0 else if x.notice+eM r ar f x<d then 1 else 2:=by
  intro x' a1 a2 a3 a4 a5 d hd;have CV:eM r ar f x'=eM r ar f x:=by unfold eM;rw[a3]
  have Hg:kA f x'=kA f x:=by unfold kA;rw[a1,a2,a3]
  unfold eL;rw[CV,Hg,h4,decide_eq_true a5,a3,a4];exact aok (by omega) h3
 have sy:=st (yL x day) rfl rfl rfl rfl hy;refine⟨?_,?_,fun firm hz d hd=>?_⟩
 ·rw[sy day (Int.le_refl _),if_neg (abJ x day _ _ h5),if_neg (by omega)]
 ·rw[sy (day+140000) (by omega),if_neg (abJ x day _ _ h5),if_pos (by omega)]
 ·have Nn:=arh hz;refine⟨?_,?_⟩
  ·rw[st (zL x day firm false) rfl rfl rfl rfl hz d hd,sy d hd];have:(zL x day firm false).claims.any (gH (x.notice+eM r ar f x) d)=(yL x day).claims.any (gH (x.notice+eM r ar f x) d):=by simp[zL,yL,gH]
   rw[this]
  ·rw[st (zL x day firm true) rfl rfl rfl rfl Nn d hd,if_pos];simp[zL,gH];exact .inr ⟨h6,hd⟩
theorem aoz (x:Lost)(day:Int){k:Nat}(hk:k<x.claims.length):((x.claims.take (k+1)).filter fun c=>decide (c.day≤day))=((x.claims.take k).filter fun c=>decide (c.day≤day))++if x.claims[k].day≤day then[x.claims[k]] else[]:=by
 rw[QH (fun c:Objection=>decide (c.day≤day)) x.claims hk];by_cases h:x.claims[k].day≤day<;>simp[h]
set_option maxRecDepth 10000 in
theorem aca (r:Realm)(hr:r.OK)(ar:Int)(f:File)(vC:f.OK)(x:Lost)(hx:x.OK)(day:Int)(hd:aN day)(firm:Int)(kQ:aN firm)(more:Nat)(hm:more≤65535):
 ao T 5 [ba r,.int ar,aY f,dS x,.int day,.int firm,.v (.int .u16 more)] (.bool true):=by
 refine .of_tree rfl (lA 119 (by kernel_rfl)) ao2 ?_;simp[Q4];refine⟨_,Xe,_,WY r f x hr,?_⟩;cases hg:yS r f x
 ·simp
 obtain⟨e,L,hl⟩:=Xy hr vC hg;by_cases tG:day≤100000
 case neg=>simp[tG,show 100000<day by omega]
 simp[tG,show ¬100000<day by omega];have s1:=L.state ar hx (by omega) day;refine⟨_,s1,?_⟩;by_cases ho:eL r ar f x e day=2
 case neg=>simp[ho]
 simp[ho];obtain⟨o1,o2,o3⟩:=alL (fun h=>(L.ok h).day.1) ho;have hup:(jJ x day).length≤30:=by
  have:=sU (fun c:Objection=>decide (c.day≤day)) x.claims;show(x.claims.filter _).length≤30;omega
 have oZ:IntKind.i64.wrap (more:Int)=more:=bV (by omega);have hI:-9223372036854775808≤day:=hd.1;have dg:IntKind.i64.wrap (day+more)=day+more:=bV (by omega);have C0:IntKind.i64.wrap (day+100000)=day+100000:=bV (by omega);have C1:IntKind.i64.wrap (day+100000+40000)=day+140000:=by rw[bV (by omega)];omega
 have Tc:(yL x day).OK:=by
  obtain⟨a1,a2,a3,a4,a5,a6,a7⟩:=hx;exact⟨a1,a2,a3,a4,a5,by rw[H2];show(jJ x day).length≤_;omega,fun c hc=>a7 c (du.1 hc).1⟩
 have Tf:∀b,(zL x day firm b).OK:=by
  intro b;obtain⟨a1,a2,a3,a4,a5,a6,a7⟩:=hx;refine⟨a1,a2,a3,a4,a5,by rw[H2];simp[zL];omega,fun c hc=>?_⟩;simp[zL] at hc;rcases hc with hc|rfl
  ·exact a7 c (du.1 hc).1
  ·exact⟨kQ,hd⟩
 refine aT.forRounds x.claims.length (fun k=>[.int k]) (fun k=>[.agg [.int x.file,.int x.part,.int x.by_,.int x.day,.int x.notice,if((x.claims.take k).filter fun c=>decide (c.day≤day))=[] then .list [] else .none],mT ((x.claims.take k).filter fun c=>decide (c.day≤day))]) ?_ (fun k hk=>?_) ?_
 ·simp[cl];rfl
 ·have hw:=br hk (by omega);have ht:=aoz x day hk;have hlen:((x.claims.take k).filter fun c=>decide (c.day≤day)).length≤k:=lG (sU _ _) (by simp;omega);rw[ht];generalize (x.claims.take k).filter (fun c=>decide (c.day≤day))=A at*;simp[aap,I1,hk,hw];by_cases hc:x.claims[k].day≤day
  ·simp[hc,cl,mT];omega
  ·simp[hc,show day<x.claims[k].day by omega]
 simp[aap,I1];rw[show(x.claims.filter fun c=>decide (c.day≤day))=jJ x day from rfl];have sy1:=L.state ar Tc (by show(jJ x day).length≤1000;omega) day;have sy2:=L.state ar Tc (by show(jJ x day).length≤1000;omega) (day+140000);have sy3:=L.state ar Tc (by show(jJ x day).length≤1000;omega) (day+more);have zl:∀b,(zL x day firm b).claims.length≤1000:=fun b=>by simp[zL];omega
 have sz1:=L.state ar (Tf false) (zl false) (day+more);have sz2:=L.state ar (Tf true) (zl true) day;have sz3:=L.state ar (Tf true) (zl true) (day+more);have cz:=HY r f (zL x day firm false) e L.check (zl false);rw[o1] at sy1;rw[o2] at sy2;refine⟨_,sy1,?_⟩;simp[C0,C1];refine⟨_,sy2,?_⟩;simp;refine⟨by omega,by omega,?_⟩;have ez:∀b,(D.agg [.int x.file,.int x.part,.int x.by_,.int x.day,.int x.notice,.list ((jJ x day).map jR++[.agg [.int firm,.int day,.bool b]])])=dS (zL x day firm b):=fun b=>by simp[dS,zL,mT,jR]
 simp[cl,ez,oZ,dg];refine⟨_,cz,?_⟩;by_cases hz:eB r f (zL x day firm false) e=0
 case neg=>simp[hz]
 have CE:=o3 firm hz;rw[(CE (day+more) (by omega)).1] at sz1;rw[(CE day (by omega)).2] at sz2;rw[(CE (day+more) (by omega)).2] at sz3;simp[hz];refine⟨_,sz1,_,sy3,?_⟩;have zo:IntKind.i64.wrap ((jJ x day).length:Int)=(jJ x day).length:=bV (by omega);have V3:((jJ x day).map jR).length=(jJ x day).length:=gw ..;have qj:((jJ x day).map jR++[D.agg [.int firm,.int day,.bool false]])[(jJ x day).length]?.getD D.none=D.agg [.int firm,.int day,.bool false]:=by
  rw[km (by omega),V3];simp
 have oY:∀b:D,((jJ x day).map jR++[D.agg [.int firm,.int day,.bool false]]).set (jJ x day).length b=(jJ x day).map jR++[b]:=fun b=>by
  rw[List.set_append_right _ _ (by omega),V3];simp
 have qq:sK (D.agg [.int firm,.int day,.bool false]) 2 (.bool true)=D.agg [.int firm,.int day,.bool true]:=rfl;simp only[zo,sR,qj,qq,oY,ez];refine⟨⟨by omega,by omega⟩,?_⟩;simp;refine⟨_,sz2,?_⟩;simp;exact⟨_,sz3,rfl⟩
end Rm
