/-
  Shared texts of this claim.
-/
import Derived.Test.YtmnnipoiigfapaaGreatDoorHAP
set_option linter.unusedSimpArgs false
set_option linter.unusedVariables false
namespace Rm
open Go Cx
structure Chain where
 signs:List Int
 holder:Int
 broken:Int
 bearer:Bool
 agent:Int
 late:List Int
 deriving Inhabited
def mW (x:Chain):D:=.agg [ints x.signs,.int x.holder,.int x.broken,.bool x.bearer,.int x.agent,ints x.late]
@[simp] theorem avg (x:Chain):(mW x).cells=[ints x.signs,.int x.holder,.int x.broken,.bool x.bearer,.int x.agent,ints x.late]:=_root_.id rfl
@[simp] theorem azS (x:Chain):D.agg [ints x.signs,.int x.holder,.int x.broken,.bool x.bearer,.int x.agent,ints x.late]=mW x:=_root_.id rfl
@[simp] theorem aw5 (x:Chain):ke 6 (mW x)=mW x:=_root_.id rfl
@[simp] theorem ava (x:Chain):(mW x).c 0=ints x.signs:=_root_.id rfl
@[simp] theorem avb (x:Chain):(mW x).c 1=.int x.holder:=_root_.id rfl
@[simp] theorem avc (x:Chain):(mW x).c 2=.int x.broken:=_root_.id rfl
@[simp] theorem avd (x:Chain):(mW x).c 3=.bool x.bearer:=_root_.id rfl
@[simp] theorem ave (x:Chain):(mW x).c 4=.int x.agent:=_root_.id rfl
@[simp] theorem avf (x:Chain):(mW x).c 5=ints x.late:=_root_.id rfl
structure Objection where
 firm:Int
 day:Int
 shows:Bool
 deriving DecidableEq,Inhabited
def pC (x:Objection):D:=.agg [.int x.firm,.int x.day,.bool x.shows]
@[simp] theorem av8 (x:Objection):(pC x).cells=[.int x.firm,.int x.day,.bool x.shows]:=_root_.id rfl
@[simp] theorem az1 (x:Objection):D.agg [.int x.firm,.int x.day,.bool x.shows]=pC x:=_root_.id rfl
@[simp] theorem av5 (x:Objection):(pC x).c 0=.int x.firm:=_root_.id rfl
@[simp] theorem av6 (x:Objection):(pC x).c 1=.int x.day:=_root_.id rfl
@[simp] theorem av7 (x:Objection):(pC x).c 2=.bool x.shows:=_root_.id rfl
def u7 (l:List Objection):D:=.list (l.map pC)
@[simp] theorem aAj (l:List Objection):(u7 l).l=l.map pC:=_root_.id rfl
abbrev UP:Ty:=.agg [.int .i64,.int .i64,.bool]
def Objection.OK (x:Objection):Prop:=aN x.firm∧aN x.day
theorem aol {d:D}(h:DTy UP d):∃x:Objection,d=pC x∧x.OK:=by
 obtain⟨ds,rfl,hs⟩:=h.agg_inv;obtain⟨d0,ds,rfl,h0,hs⟩:=hs.cons_inv;obtain⟨d1,ds,rfl,h1,hs⟩:=hs.cons_inv;obtain⟨d2,ds,rfl,h2,hs⟩:=hs.cons_inv;obtain rfl:=hs.nil_inv;obtain⟨n0,rfl,b0⟩:=h0.i64_inv;obtain⟨n1,rfl,b1⟩:=h1.i64_inv;obtain⟨n2,rfl⟩:=h2.bool_inv;exact⟨⟨n0,n1,n2⟩,rfl,⟨b0,b1⟩⟩
theorem aom {d:D}(h:DTy (.slice UP) d):∃l:List Objection,d=u7 l∧l.length≤maxLen∧∀y,y∈l→Objection.OK y:=by
 obtain⟨xs,rfl,hm,hx⟩:=h.slice_inv;obtain⟨l,rfl,hl⟩:=jW (enc:=pC) (P:=Objection.OK) fun x hh=>aol (hx x hh);exact⟨l,rfl,by simpa using hm,hl⟩
structure Lost where
 file:Int
 part:Int
 by_:Int
 day:Int
 notice:Int
 claims:List Objection
 deriving Inhabited
def fb (x:Lost):D:=.agg [.int x.file,.int x.part,.int x.by_,.int x.day,.int x.notice,u7 x.claims]
@[simp] theorem av4 (x:Lost):(fb x).cells=[.int x.file,.int x.part,.int x.by_,.int x.day,.int x.notice,u7 x.claims]:=_root_.id rfl
@[simp] theorem az0 (x:Lost):D.agg [.int x.file,.int x.part,.int x.by_,.int x.day,.int x.notice,u7 x.claims]=fb x:=_root_.id rfl
@[simp] theorem aw7 (x:Lost):ke 6 (fb x)=fb x:=_root_.id rfl
@[simp] theorem avZ (x:Lost):(fb x).c 1=.int x.part:=_root_.id rfl
@[simp] theorem av0 (x:Lost):(fb x).c 2=.int x.by_:=_root_.id rfl
@[simp] theorem av1 (x:Lost):(fb x).c 3=.int x.day:=_root_.id rfl
@[simp] theorem av2 (x:Lost):(fb x).c 4=.int x.notice:=_root_.id rfl
@[simp] theorem av3 (x:Lost):(fb x).c 5=u7 x.claims:=_root_.id rfl
abbrev atY:Ty:=.agg [.int .i64,.int .i64,.int .i64,.int .i64,.int .i64,.slice UP]
def Lost.OK (x:Lost):Prop:=aN x.file∧aN x.part∧aN x.by_∧aN x.day∧aN x.notice∧(x.claims.length≤maxLen∧∀y,y∈x.claims→Objection.OK y)
theorem amu {d:D}(h:DTy atY d):∃x:Lost,d=fb x∧x.OK:=by
 obtain⟨ds,rfl,hs⟩:=h.agg_inv;obtain⟨d0,ds,rfl,h0,hs⟩:=hs.cons_inv;obtain⟨d1,ds,rfl,h1,hs⟩:=hs.cons_inv;obtain⟨d2,ds,rfl,h2,hs⟩:=hs.cons_inv;obtain⟨d3,ds,rfl,h3,hs⟩:=hs.cons_inv;obtain⟨d4,ds,rfl,h4,hs⟩:=hs.cons_inv;obtain⟨d5,ds,rfl,h5,hs⟩:=hs.cons_inv;obtain rfl:=hs.nil_inv;obtain⟨n0,rfl,b0⟩:=h0.i64_inv;obtain⟨n1,rfl,b1⟩:=h1.i64_inv;obtain⟨n2,rfl,b2⟩:=h2.i64_inv;obtain⟨n3,rfl,b3⟩:=h3.i64_inv;obtain⟨n4,rfl,b4⟩:=h4.i64_inv;obtain⟨n5,rfl,b5,c5⟩:=aom h5;exact⟨⟨n0,n1,n2,n3,n4,n5⟩,rfl,⟨b0,b1,b2,b3,b4,⟨b5,c5⟩⟩⟩
end Rm
namespace Rm
open Go Go.Proofs Cx
theorem adU {α:Type}{p:α→Bool}{l:List α}{x:α}(h:x∈l.takeWhile p):p x=true:=by
 induction l with
 |nil=>cases h
 |cons y l ih=>
  rw[Vu] at h;split at h
  ·rcases cD.1 h with rfl|h
   ·assumption
   ·exact ih h
  ·cases h
theorem Zr (k k':Int)(v:D):∀es:List (D×D),(∀e,e∈es→∃n:Int,e.1=.int n)→dR (.int k') (dc (.int k) v es)=if k'=k then some v else dR (.int k') es
 |[],_=>by
  simp[dc,dR]
 |e::es,h=>by
  have ih:=Zr k k' v es fun x hx=>h x (by simp[hx]);obtain⟨n,hn⟩:=h e (by simp);obtain⟨e1,e2⟩:=e;simp only at hn;subst hn;by_cases hk:k=n
  ·subst hk;by_cases jP:k'=k
   ·simp[dc,dR,jP]
   ·simp[dc,dR,jP]
  ·by_cases jP:k'=n
   ·subst jP;simp[dc,dR,hk,tS hk]
   ·simp[dc,dR,hk,jP,ih]
theorem abM (k v:D):∀es:List (D×D),∀e,e∈dc k v es→e.1=k∨e∈es
 |[],e,h=>by
  simp[dc] at h;exact .inl (by rw[h])
 |x::es,e,h=>by
  unfold dc at h;split at h
  ·rcases cD.1 h with rfl|h
   ·exact .inl rfl
   ·exact .inr (by simp[h])
  ·rcases cD.1 h with rfl|h
   ·exact .inr (by simp)
   ·rcases abM k v es e h with h|h
    ·exact .inl h
    ·exact .inr (by simp[h])
end Rm
namespace Rm
open Go Go.Proofs Cx
def tE (i day:Int)(a:Act):Bool:=decide (a.kind=7)&&decide (a.at_=i)&&decide (a.day≤day)
def jB (l:List Act)(i day:Int):Bool:=l.any (tE i day)
theorem adA (i day:Int)(l:List Act):(dR (.int i) (iu day l [])).getD (.bool false)=.bool (jB l i day):=by
 have key:∀(l:List Act) (es:List (D×D)) (b:Bool),(∀e,e∈es→∃n:Int,e.1=.int n)→(dR (.int i) es).getD (.bool false)=.bool b→(dR (.int i) (iu day l es)).getD (.bool false)=.bool (b||l.any (tE i day)):=by
  intro l
  induction l with
  |nil=>intro es b _ h;simpa [iu] using h
  |cons a l ih=>
   intro es b hk h;have h1:∀e,e∈(if a.kind=7∧a.day≤day then dc (.int a.at_) (.bool true) es else es)→∃n:Int,e.1=.int n:=by
        intro e he;split at he
        ·rcases abM _ _ _ _ he with h'|h'
         ·exact⟨_,h'⟩
         ·exact hk e h'
        ·exact hk e he
   have h2:(dR (.int i) (if a.kind=7∧a.day≤day then dc (.int a.at_) (.bool true) es else es)).getD (.bool false)=.bool (b||tE i day a):=by
        split
        ·rename_i hc;rw[Zr _ _ _ _ hk];by_cases hi:i=a.at_
         ·simp[hi,tE,hc]
         ·rw[if_neg hi,h];simp[tE,tS hi]
        ·rename_i hc;rw[h];have:tE i day a=false:=by
          simp[tE];intro h7 _;have:¬a.day≤day:=fun hd=>hc ⟨h7,hd⟩;omega
         rw[this,qt]
   have:=ih _ _ h1 h2;rw[show iu day (a::l) es=iu day l (if a.kind=7∧a.day≤day then dc (.int a.at_) (.bool true) es else es) from rfl,this,List.any_cons,Bool.or_assoc]
 simpa [jB] using key l [] false (fun _ h=>by cases h) rfl
theorem adE (f:File)(i day:Int):tF f i day=(au i f.signs.length&&jB f.acts i day):=by
 unfold tF;rw[adA];rfl
def lC (f:File)(part day:Int)(i:Nat)(s:Sign):Bool:=decide (s.kind=2)&&decide (s.part=part)&&decide (s.day≤day)&& !jB f.acts i day
def gp (f:File)(part day:Int):List Nat:=(List.range f.signs.length).filter fun i=>lC f part day i (f.signs.getD i default)
def jK (f:File)(part day:Int)(k:Nat):List Nat:=(List.range k).filter fun i=>lC f part day i (f.signs.getD i default)
theorem Wv (f:File)(part day:Int)(k:Nat):jK f part day (k+1)=jK f part day k++if lC f part day k (f.signs.getD k default) then[k] else[]:=by
 unfold jK;rw[Vt,BK]
 congr 1
 have key:∀(p:Nat→Bool),List.filter p [k]=if p k then[k] else[]:=fun p=>by
  cases h:p k<;>simp[List.filter,h]
 exact key _
theorem agU (f:File)(part day:Int){k n:Nat}(h:k≤n):∃r,jK f part day n=jK f part day k++r:=by
 induction n with
 |zero=>obtain rfl:k=0:=by omega
        exact⟨[],by simp⟩
 |succ n ih=>
  by_cases e:k=n+1
  ·subst e;exact⟨[],by simp⟩
  ·obtain⟨r,hr⟩:=ih (by omega);exact⟨r++_,by rw[Wv,hr,qv]⟩
theorem Wu (f:File)(part day:Int):jK f part day f.signs.length=gp f part day:=rfl
def mX (f:File)(i:Nat):D:=.tup [.int i,eE (f.signs.getD i default)]
def dY (f:File)(part day:Int):List (Int×Sign):=(gp f part day).map fun(i:Nat)=>((i:Int),f.signs.getD i default)
theorem Ww (f:File)(part day:Int):(gp f part day).length≤f.signs.length:=by
 unfold gp;have:=rT (fun i=>lC f part day i (f.signs.getD i default)) (List.range f.signs.length);rw[F3] at this;exact this
def wq (day:Int)(a:Act):Bool:=(decide (a.kind=1)||decide (a.kind=3)||decide (a.kind=4))&&decide (a.day≤day)
def ua (day:Int)(x:Int×Bool)(a:Act):Int×Bool:=if wq day a then(if x.2=false∨a.day<x.1 then a.day else x.1,true) else x
def kg (day:Int)(acts:List Act):Int×Bool:=acts.foldl (ua day) (0,false)
def KO (b fl:Int):Int:=if ui fl 2||b !=0 then 1 else if ui fl 4 then 2 else 0
def brk (c:Chain)(s:Sign):Bool:= !c.bearer&&s.who !=c.holder
def gW (p:Int×Bool)(c:Chain)(i:Int)(s:Sign):Chain:={signs:=c.signs++[i],holder:=s.to,broken:=c.broken,bearer:=s.to==-1,agent:=KO c.agent s.flags,late:=if p.2&&decide (p.1<s.day) then c.late++[i] else c.late}
def eZ (p:Int×Bool)(c:Chain):List (Int×Sign)→Chain
 |[]=>c
 |x::l=>if brk c x.2 then {c with broken:=x.1} else eZ p (gW p c x.1 x.2) l
def lh (f:File):Chain:=⟨[],f.bill.payee,-1,f.bill.payee==-1,0,[]⟩
def dG (f:File)(part day:Int):Chain:=eZ (kg day f.acts) (lh f) (dY f part day)
theorem V7 (p:Int×Bool):∀(l:List (Int×Sign)) (c:Chain),(eZ p c l).signs.length≤c.signs.length+l.length∧((eZ p c l).late.length≤c.late.length+l.length)
 |[],c=>by simp[eZ]
 |x::l,c=>by
  unfold eZ;split
  ·exact⟨Nat.le_add_right _ _,Nat.le_add_right _ _⟩
  ·have:=V7 p l (gW p c x.1 x.2);have h1:(gW p c x.1 x.2).signs.length=c.signs.length+1:=by simp[gW]
   have h2:(gW p c x.1 x.2).late.length≤c.late.length+1:=by
        simp only[gW];split<;>simp
   simp only[nI];omega
theorem MF (f:File)(part day:Int):(dG f part day).signs.length≤f.signs.length∧(dG f part day).late.length≤f.signs.length:=by
 have h:=V7 (kg day f.acts) (dY f part day) (lh f);have h2:=Ww f part day;have h3:(dY f part day).length=(gp f part day).length:=by unfold dY;rw[gT]
 have h4:(lh f).signs.length=0∧(lh f).late.length=0:=⟨rfl,rfl⟩
 unfold dG;omega
end Rm
namespace Rm
open Go Go.Proofs Cx
theorem agV (f:File)(part day:Int):M0 [.ref (aX f),.ref (.int day),.ref (.int part)]=(gp f part day).map (mX f):=by
 have e1:((D.ref (aX f)).deref.c 15).l=f.signs.map eE:=rfl;have e2:((D.ref (aX f)).deref.c 17).l=f.acts.map gH:=rfl;unfold M0 gp;simp only[tN,BL,e1,e2,gT]
 have key:∀i,i<f.signs.length→(f.signs.map eE).getD i .none=eE (f.signs.getD i default):=fun i hi=>by
  simp[aJ,hi]
 have hf:((List.range f.signs.length).filter fun(i:Nat)=>decide ((((f.signs.map eE).getD i .none).c 0).i=2)&&decide ((((f.signs.map eE).getD i .none).c 1).i=(D.ref (D.int part)).deref.i)&&decide ((((f.signs.map eE).getD i .none).c 6).i≤(D.ref (D.int day)).deref.i)&&
  !((f.acts.map gH).any fun a=>decide ((a.c 0).i=7)&&decide ((a.c 4).i=(i:Int))&&decide ((a.c 6).i≤(D.ref (D.int day)).deref.i)))=(List.range f.signs.length).filter fun i=>lC f part day i (f.signs.getD i default):=by
  apply Ln;intro i hi;rw[key i (bP.1 hi),List.any_map];rfl
 rw[hf];apply tP;intro i hi;rw[key i (bP.1 (cY.1 hi).1)];rfl
set_option maxRecDepth 10000 in
theorem agT (f:File)(part day:Int)(h1:f.acts.length≤1000)(h2:f.signs.length≤1000):aq T 64 [.ref (aX f),.ref (.int day),.ref (.int part)] (.list ((gp f part day).map (mX f))):=by
 have uL:=agV f part day;rw[←uL];refine aq.of_it (pc:=(ae sq)) (J:=1000) (k:=2) rfl (fun x hx=>?_) (fun m hm=>?_)
 ·rw[uL] at hx;obtain⟨i,_,rfl⟩:=dM.1 hx;exact⟨_,rfl,rfl⟩
 ·rw[uL] at hm ⊢;refine Lc ?_;rw[atN];simp[UB];refine⟨_,(adM f day (by omega)).yld (by decide),?_⟩;refine aP.forLoop (α:=Nat) (fun k vr vo=>k≤f.signs.length∧vr=[.int k]∧vo=[.list ((jK f part day k).map (mX f))]∧(jK f part day k).length≤m) (fun k=>f.signs.length-k) 0 ?_ ?_
  ·simp[ag3,jK]
  ·rintro k vr vo ⟨hk,rfl,rfl,hc⟩;by_cases ah:k<f.signs.length
   ·have fm:IntKind.i64.wrap ((k:Int)+1)=(k:Int)+1:=bL (by omega);have hg:f.signs.getD k default=f.signs[k]:=by simp[ah]
    have akp:=adA k day f.acts;have qQ:(((f.signs[k].kind=2∧f.signs[k].part=part)∧f.signs[k].day≤day)∧jB f.acts k day=false)↔lC f part day k (f.signs.getD k default)=true:=by
     rw[hg];simp[lC]
    have iS:=Wv f part day k;obtain⟨r,hr⟩:=agU f part day (k:=k+1) (n:=f.signs.length) ah;rw[Wu] at hr;simp[acT,KG,ah,fm,akp];by_cases hi:lC f part day k (f.signs.getD k default)=true
    ·have uu:=qQ.2 hi;rw[if_pos hi] at iS;have hlen:(jK f part day (k+1)).length=(jK f part day k).length+1:=by rw[iS];simp
     have sS:(jK f part day k).map (mX f)++[D.tup [D.int k,eE f.signs[k]]]=(jK f part day (k+1)).map (mX f):=by
      rw[iS,rU,List.map_singleton];unfold mX;rw[hg]
     have DP:(jK f part day (k+1)).map (mX f)=((gp f part day).map (mX f)).take ((jK f part day k).length+1):=by
      rw[hr,rU,List.take_append_of_le_length (by simp[hlen]),BO (by simp[hlen])]
     have be:(jK f part day k).length<((gp f part day).map (mX f)).length:=by
      rw[hr];simp[hlen];omega
     simp only[uu,sS,and_self,if_true,true_and];refine⟨_,aq.answer DP be hc,?_⟩;by_cases nX:(jK f part day k).length<m
     ·rw[if_neg (by simp[nX])];exact⟨k+1,by omega,by omega,by simp,rfl,by omega⟩
     ·obtain rfl:(jK f part day k).length=m:=by omega
      rw[if_pos (by simp),DP]
    ·have uu:=fun h=>hi (qQ.1 h);rw[if_neg hi,lf] at iS;rw[if_neg uu,if_neg uu,if_neg (fun h=>uu h.1)];exact⟨k+1,by omega,by omega,by simp,by rw[iS],by rw[iS];exact hc⟩
   ·obtain rfl:k=f.signs.length:=by omega
    simp[acT,KG];rw[Wu] at hc ⊢;rw[BO (by simp;omega)]
set_option maxRecDepth 10000 in
theorem afY (f:File)(day:Int)(hf:f.acts.length≤1000):aq T 29 [aX f,.int day] (.tup [.int (kg day f.acts).1,.bool (kg day f.acts).2]):=by
 refine .of_tree rfl (lA 92 (by kernel_rfl)) atM ?_;simp[Uz];refine aP.forRounds f.acts.length (fun k=>[.int (kg day (f.acts.take k)).1,.bool (kg day (f.acts.take k)).2,.int k]) (fun k=>[]) ?_ (fun k hk=>?_) ?_
 ·simp;exact⟨rfl,rfl⟩
 ·have fm:IntKind.i64.wrap ((k:Int)+1)=(k:Int)+1:=bL (by omega);have hs:kg day (f.acts.take (k+1))=ua day (kg day (f.acts.take k)) f.acts[k]:=by
   unfold kg;rw[nJ hk,FY];rfl
  rw[hs];generalize kg day (f.acts.take k)=x;simp[acS,KF,hk,fm];generalize f.acts[k]=a;split
  ·rename_i h;have hd:wq day a=false:=by
        cases e:wq day a with
        |false=>rfl
        |true=>simp[wq] at e;omega
   simp[ua,hd]
  ·rename_i h;have hd:wq day a=true:=by
        simp[wq];omega
   by_cases h2:x.2=false∨a.day<x.1
   ·simp[ua,hd,h2]
   ·simp[ua,hd,h2];cases e:x.2 with
    |true=>rfl
    |false=>exact absurd (.inl e) h2
 ·simp[acS,KF]
theorem aqK (b fl:Int):aq T 31 [.int b,.int fl] (.int (KO b fl)):=by
 refine .of_tree rfl (lA 95 (by kernel_rfl)) atP ?_;simp[UC,KO,ui];split
 ·rename_i h;by_cases h1:cP .and .i64 fl 2=0
  ·simp[h1] at h;simp[h]
  ·simp[h1]
 ·rename_i h;by_cases h1:cP .and .i64 fl 2=0
  ·simp[h1] at h;simp[h1,h]
  ·simp[h1] at h
theorem agY (f:File)(part day:Int):aq T 30 [aX f,.int part,.int day] (.clo 64 [.ref (aX f),.ref (.int day),.ref (.int part)]):=by
 refine .of_tree rfl (lA 93 (by kernel_rfl)) atO ?_;simp[UA]
theorem agW (f:File)(part day:Int)(k:Nat)(y:D)(h:((gp f part day).map (mX f))[k]?=some y):∃x:Int×Sign,(dY f part day).drop k=x::(dY f part day).drop (k+1)∧y=.tup [.int x.1,eE x.2]:=by
 rw[cC,aA] at h;obtain⟨i,hi,rfl⟩:=h;refine⟨((i:Int),f.signs.getD i default),?_,rfl⟩;have ah:=(eC.1 hi).1;have hl:k<(dY f part day).length:=by unfold dY;rw[gT];exact ah
 rw[Lj hl]
 congr 1
 have e2:(dY f part day)[k]?=some ((i:Int),f.signs.getD i default):=by
  unfold dY;rw[cC,hi];rfl
 rw[bA hl] at e2;exact BQ e2
set_option maxRecDepth 10000 in
theorem afq (ρ:Env)(f:File)(part day:Int)(p:Int×Bool)(h2:f.signs.length≤1000)(h77:ρ.r 77=.list ((gp f part day).map (mX f)))(a0 a5:D)(h7:ρ.o 7=.agg [a0,.int f.bill.payee,.int (-1),.bool (f.bill.payee==-1),.int 0,a5])
 (h41:ρ.o 4103=.list []) (h24:ρ.o 24583=.list []) (h8:ρ.o 8=.agg [.int p.1]) (h9:ρ.o 9=.agg [.bool p.2]) {Q:Out→Prop}
 (hQ:∀(ρ':Env) (b0 b5:D),ρ'.o 4103=ints (eZ p (lh f) (dY f part day)).signs→ρ'.o 24583=ints (eZ p (lh f) (dY f part day)).late→
   ρ'.o 7=.agg [b0,.int (eZ p (lh f) (dY f part day)).holder,.int (eZ p (lh f) (dY f part day)).broken,.bool (eZ p (lh f) (dY f part day)).bearer,.int (eZ p (lh f) (dY f part day)).agent,b5]→
   (∀j,j≠11→j≠4103→j≠24583→j≠7→ρ'.o j=ρ.o j)→Q (.next ρ')∧Q (.exit 0 ρ')):aP T (Wp Ge) ρ Q:=by
 have hlen:=Ww f part day
 refine aP.eachR ((gp f part day).map (mX f)) (by simp[h77]) (fun k vo=>∃c:Chain,∃U1 b0 b5,c.broken=-1∧eZ p (lh f) (dY f part day)=eZ p c ((dY f part day).drop k)∧c.signs.length≤k∧c.late.length≤k∧
  vo=[U1,ints c.signs,ints c.late,.agg [b0,.int c.holder,.int c.broken,.bool c.bearer,.int c.agent,b5]]) ?_ ?_ ?_
 ·exact⟨lh f,ρ.o 11,a0,a5,rfl,by simp,bk _,bk _,by simp[h7,h41,h24,lh,ints]⟩
 ·rintro k y vo hy ⟨c,U1,b0,b5,hb,ak,uv,zS,rfl⟩;have hk:k<f.signs.length:=by
   have:=(eC.1 hy).1;rw[gT] at this;omega
  obtain⟨⟨i,s⟩,hd,rfl⟩:=agW f part day k y hy;rw[hd] at ak;simp only[eZ] at ak;simp[aqq,RU,h8,h9];split
  ·rename_i ur;have Nu:brk c s=true:=by simp[brk,ur.1,ur.2]
   rw[if_pos Nu] at ak;rw[ak] at hQ;refine⟨by decide,(hQ _ b0 b5 ?_ ?_ ?_ ?_).2⟩
   ·simp
   ·simp
   ·simp[bO]
   ·intro j h1 h2 h3 h4;simp[h1,h2,h3,h4]
  ·rename_i ur;have Nu:¬brk c s=true:=by simpa [brk] using ur
   rw[if_neg Nu] at ak;refine⟨by omega,.int (KO c.agent s.flags),?_,?_⟩
   ·simp[bO,D.cells_none];exact aqK _ _
   split
   ·rename_i Aa;refine⟨by omega,gW p c i s,hb,ak,by simp[gW];omega,by simp[gW,Aa.1,Aa.2];omega,by simp[gW,ints],by simp[gW,ints,Aa.1,Aa.2],.none,.none,?_⟩;simp[bO,D.cells_none,gW,hb]
   ·rename_i Aa;have hl:(if p.2&&decide (p.1<s.day) then c.late++[i] else c.late)=c.late:=if_neg (by simpa using Aa);refine⟨gW p c i s,hb,ak,by simp[gW];omega,by simp only[gW,hl];omega,by simp[gW,ints],by simp only[gW,hl],.none,b5,?_⟩;simp[bO,D.cells_none,gW,hb]
 ·rintro vo ⟨c,U1,b0,b5,hb,ak,uv,zS,rfl⟩;have:(dY f part day).drop ((gp f part day).map (mX f)).length=[]:=by
   rw[Ll];unfold dY;simp
  rw[this] at ak;simp only[eZ] at ak;rw[ak] at hQ;refine(hQ _ b0 b5 ?_ ?_ ?_ ?_).1
  ·simp
  ·simp
  ·simp
  ·intro j h1 h2 h3 h4;simp[h1,h2,h3,h4]
set_option maxRecDepth 10000 in
theorem yg (f:File)(part day:Int)(h1:f.acts.length≤1000)(h2:f.signs.length≤1000):aq T 12 [aX f,.int part,.int day] (mW (dG f part day)):=by
 refine .of_tree rfl (lA 91 (by kernel_rfl)) atK ?_;simp[Ux];refine⟨_,afY f day h1,_,agY f part day,64,_,rfl,_,agT f part day h1 h2,?_⟩;refine afq _ f part day (kg day f.acts) h2 (by simp) (.list []) (.list []) (by simp[bO]) (by simp) (by simp) (by simp[bO]) (by simp[bO]) (fun ρ' b0 b5 g1 g2 g3 _=>?_);simp[g1,g2,g3];constructor<;>rfl
end Rm
namespace Rm
open Go Go.Proofs Cx
@[simp] theorem aAe:D.none.b=false:=_root_.id rfl
theorem eO (n a b:Int):aq T 68 [.int n,.int a,.int b] (.bool (wi n a b)):=by
 refine .of_tree rfl (lA 28 (by kernel_rfl)) asi ?_;simp[S9];by_cases h:a≤n<;>simp[wi,h]
theorem nE (n m:Int):aq T 86 [.int n,.int m] (.bool (au n m)):=by
 refine .of_tree rfl (lA 24 (by kernel_rfl)) atU ?_;simp[UF];by_cases h:0≤n<;>simp[au,h]
def vD (b:Bill):Bool:=
 if b.tenor.kind=0∨b.tenor.kind=4 then decide (b.tenor.n=0)&&decide (b.tenor.unit=0)
 else if b.tenor.kind=1∨b.tenor.kind=2 then(decide (1≤b.tenor.n)&&decide (b.tenor.n≤400))&&(decide (b.tenor.unit=0)||decide (b.tenor.unit=1))
 else if b.tenor.kind=3 then(decide (b.day≤b.tenor.n)&&decide (b.tenor.n≤100000))&&decide (b.tenor.unit=0)
 else false
theorem aum (b:Bill):aq T 87 [fa b] (.bool (vD b)):=by
 refine .of_tree rfl (lA 25 (by kernel_rfl)) atV ?_;unfold vD;simp[UG];by_cases h0:b.tenor.kind=0
 ·by_cases h1:b.tenor.n=0<;>simp[h0,h1]
 by_cases h4:b.tenor.kind=4
 ·by_cases h1:b.tenor.n=0<;>simp[h4,h1]
 simp[h0,h4];by_cases k1:b.tenor.kind=1
 ·by_cases h1:1≤b.tenor.n<;>by_cases h2:b.tenor.n≤400<;>by_cases h3:b.tenor.unit=0<;>simp[k1,h1,h2,h3]
 by_cases k2:b.tenor.kind=2
 ·by_cases h1:1≤b.tenor.n<;>by_cases h2:b.tenor.n≤400<;>by_cases h3:b.tenor.unit=0<;>simp[k2,h1,h2,h3]
 simp[k1,k2];by_cases k3:b.tenor.kind=3
 ·by_cases h1:b.day≤b.tenor.n<;>by_cases h2:b.tenor.n≤100000<;>simp[k3,h1,h2]
 simp[k3]
def ns (n m:Int):Bool:=decide (n=-1)||au n m
def tG (r:Realm)(b:Bill):Bool:=((au b.drawer r.firms.length&&au b.drawee r.firms.length)&&ns b.payee r.firms.length)&&ns b.need r.firms.length
def rL (r:Realm)(b:Bill):Bool:=(au b.currency r.currencies.length&&au b.city r.cities.length)&&au b.pay r.cities.length
def ny (b:Bill):Prop:=((((1≤b.sum∧b.sum≤1099511627776)∧0≤b.day)∧b.day≤100000)∧0≤b.rate)∧b.rate≤1000
def uk (b:Bill):Prop:=((0≤b.flags∧b.flags≤7)∧(cP .and .i64 b.flags 4=0∨¬b.payee=-1))∧vD b=true
structure BillOK (r:Realm) (b:Bill):Prop where
 realm:jd r=0
 who:tG r b=true
 where_:rL r b=true
 range:ny b
 parts:1≤b.parts∧b.parts≤4
 form:uk b
 usance:b.tenor.kind=4→∃u,u∈r.usances∧u.fr=b.city∧u.to=b.pay
def oW (P:Prop)(d:D):Prop:=∃e:Int,d=.int e∧(e=0↔P)
theorem oW.no {P:Prop}{e:Int}(h:¬P)(he:e≠0):oW P (.int e):=⟨e,rfl,fun x=>absurd x he,fun x=>absurd x h⟩
theorem oW.ok {P:Prop}(h:P):oW P (.int 0):=⟨0,rfl,fun _=>h,fun _=>rfl⟩
theorem aul (r:Realm)(hs:Small r)(b:Bill):∃d,aq T 66 [aZ r,fa b] d∧oW (BillOK r b) d:=by
 refine aq.ex_of_tree rfl aeU atT ?_;simp[UE];refine⟨_,aqr r hs,?_⟩;by_cases h0:jd r=0
 case neg=>
  simp[h0];exact .no (fun h=>h0 h.realm) h0
 simp[h0];refine⟨_,nE _ _,?_⟩;cases h1:au b.drawer r.firms.length
 ·simp;exact .no (fun h=>by simpa [tG,h1] using h.who) (by decide)
 simp;refine⟨_,nE _ _,?_⟩;cases h2:au b.drawee r.firms.length
 ·simp;exact .no (fun h=>by simpa [tG,h2] using h.who) (by decide)
 by_cases h3:ns b.payee r.firms.length=true
 case neg=>
  have eF:¬b.payee=-1∧au b.payee r.firms.length=false:=by simpa [ns] using h3
  simp[eF.1];refine⟨_,nE _ _,?_⟩;simp[eF.2];exact .no (fun h=>h3 (by have:=h.who;simp[tG] at this;exact this.1.2)) (by decide)
 by_cases h4:ns b.need r.firms.length=true
 case neg=>
  have m3:¬b.need=-1∧au b.need r.firms.length=false:=by simpa [ns] using h4
  have du:oW (BillOK r b) (.int 1):=.no (fun h=>h4 (by have:=h.who;simp[tG] at this;exact this.2)) (by decide);by_cases hp:b.payee=-1
  ·simp[hp,m3.1];refine⟨_,nE _ _,?_⟩;simp[m3.2];exact du
  ·have eF:au b.payee r.firms.length=true:=by simpa [ns,hp] using h3
   simp[hp];refine⟨_,nE _ _,?_⟩;simp[eF,m3.1];refine⟨_,nE _ _,?_⟩;simp[m3.2];exact du
 have sU:tG r b=true:=by simp[tG,h1,h2,h3,h4]
 have hp:b.payee=-1∨(¬b.payee=-1∧au b.payee r.firms.length=true):=by
  by_cases e:b.payee=-1
  ·exact .inl e
  ·exact .inr ⟨e,by simpa [ns,e] using h3⟩
 have hn:b.need=-1∨(¬b.need=-1∧au b.need r.firms.length=true):=by
  by_cases e:b.need=-1
  ·exact .inl e
  ·exact .inr ⟨e,by simpa [ns,e] using h4⟩
 have bad:¬rL r b=true→oW (BillOK r b) (.int 1):=fun h=>.no (fun k=>h k.where_) (by decide);have fin:∀u:Int,(u=0↔∃u,u∈r.usances∧u.fr=b.city∧u.to=b.pay)→ny b→(1≤b.parts∧b.parts≤4)→uk b→rL r b=true→oW (BillOK r b) (if b.tenor.kind=4 then .int u else .int 0):=by
  intro u hu h6 h7 h8 h9;by_cases e:b.tenor.kind=4
  ·rw[if_pos e];exact⟨u,rfl,fun h=>⟨h0,sU,h9,h6,h7,h8,fun _=>hu.1 h⟩,fun h=>hu.2 (h.usance e)⟩
  ·rw[if_neg e];exact .ok ⟨h0,sU,h9,h6,h7,h8,fun h=>absurd h e⟩
 obtain⟨un,ue,hu1,_,hu2⟩:=aep r b.city b.pay (by have:=hs.us;omega);rcases hp with hp|⟨hp,fh⟩<;>rcases hn with hn|⟨hn,pQ⟩
 case' inl.inl=>simp[hp,hn]
 case' inl.inr=>simp[hp,hn];refine⟨_,nE _ _,?_⟩;simp[pQ]
 case' inr.inl=>simp[hp,hn];refine⟨_,nE _ _,?_⟩;simp[fh]
 case' inr.inr=>simp[hp,hn];refine⟨_,nE _ _,?_⟩;simp[fh];refine⟨_,nE _ _,?_⟩;simp[pQ]
 all_goals
  refine⟨_,nE _ _,?_⟩;cases h5:au b.currency r.currencies.length
  ·simp;exact bad (by simp[rL,h5])
  simp;refine⟨_,nE _ _,?_⟩;cases h6:au b.city r.cities.length
  ·simp;exact bad (by simp[rL,h6])
  simp;refine⟨_,nE _ _,?_⟩;cases h7:au b.pay r.cities.length
  ·simp;exact bad (by simp[rL,h7])
  have DT:rL r b=true:=by simp[rL,h5,h6,h7]
  simp;by_cases h8:ny b
  case neg=>
   have CV:((((b.sum<1∨1099511627776<b.sum)∨b.day<0)∨100000<b.day)∨b.rate<0)∨1000<b.rate:=by unfold ny at h8;omega
   rw[if_pos CV];exact .no (fun k=>h8 k.range) (by decide)
  have CV:¬(((((b.sum<1∨1099511627776<b.sum)∨b.day<0)∨100000<b.day)∨b.rate<0)∨1000<b.rate):=by unfold ny at h8;omega
  rw[if_neg CV];by_cases h9:1≤b.parts∧b.parts≤4
  case neg=>
   rw[if_pos (by omega)];exact .no (fun k=>h9 k.parts) (by decide)
  rw[if_neg (by omega)];have LQ:¬uk b→oW (BillOK r b) (.int 2):=fun h=>.no (fun k=>h k.form) (by decide);by_cases g1:0≤b.flags∧b.flags≤7
  case neg=>
   have fc:b.flags<0∨7<b.flags:=by omega
   simp[g1,fc];exact LQ (fun h=>g1 h.1.1)
  have fc:¬(b.flags<0∨7<b.flags):=by omega
  by_cases g2:cP .and .i64 b.flags 4=0∨¬b.payee=-1
  case neg=>
   have nT:¬cP .and .i64 b.flags 4=0∧b.payee=-1:=by simpa using g2
   first
        |exact absurd nT.2 hp
        |(simp[g1,fc,nT]
          exact LQ (fun h=>g2 h.1.2))
  have g3:(b.payee=-1→cP .and .i64 b.flags 4=0):=fun e=>g2.resolve_right (fun h=>h e);simp[g1,fc,hp,g3];refine⟨_,aum b,?_⟩;cases jM:vD b
  ·simp;exact LQ (fun h=>by have:=h.2;rw[jM] at this;cases this)
  have hf:=fin ue hu2 h8 h9 ⟨⟨g1,g2⟩,jM⟩ DT;simp;by_cases e:b.tenor.kind=4
  ·simp[e] at hf ⊢;exact⟨_,hu1,hf⟩
  ·simp[e] at hf ⊢;exact hf
end Rm
namespace Rm
open Go Go.Proofs Cx
def kC (f:File)(i part:Int):Bool:=decide (i=0)||decide ((bD f i).part=part)
theorem abD (f:File)(i part:Int)(h:i=0∨(0≤i∧i<f.signs.length)):aq T 118 [aX f,.int i,.int part] (.bool (kC f i part)):=by
 refine .of_tree rfl (lA 31 (by kernel_rfl)) asl ?_;unfold kC;by_cases h0:i=0
 ·simp[K7,h0]
 ·obtain⟨h1,h2⟩:=h.resolve_left h0;have h3:i.toNat<f.signs.length:=by omega
  simp[K7,h0,h1,h2,h3,bD]
def sm (f:File)(i:Int)(kinds:List Int):Bool:=wi (bD f i).for_ 0 (i-1)&&(kC f (bD f i).for_ (bD f i).part&&hasB kinds (bD f (bD f i).for_).kind)
theorem ape (f:File)(i:Int)(kinds:List Int)(h:0≤i∧i<f.signs.length)(hl:f.signs.length≤100000)(hk:kinds.length≤100):aq T 117 [aX f,.int i,ints kinds] (.bool (sm f i kinds)):=by
 refine .of_tree rfl (lA 30 (by kernel_rfl)) asf ?_;have h1:i.toNat<f.signs.length:=by omega
 have hw:IntKind.i64.wrap (i-1)=i-1:=bL (by omega);have hs:bD f i=f.signs[i.toNat]:=by simp[bD,h1]
 unfold sm;rw[hs];simp[S6,h,h1,hw];refine⟨_,eO _ _ _,?_⟩;cases hb:wi f.signs[i.toNat].for_ 0 (i-1)
 ·simp
 ·have aY:0≤f.signs[i.toNat].for_∧f.signs[i.toNat].for_<f.signs.length:=by
   simp[wi] at hb;omega
  have h2:f.signs[i.toNat].for_.toNat<f.signs.length:=by omega
  have fj:bD f f.signs[i.toNat].for_=f.signs[f.signs[i.toNat].for_.toNat]:=by simp[bD,h2]
  rw[fj];simp;refine⟨_,abD f _ _ (.inr aY),?_⟩;cases bM:kC f f.signs[i.toNat].for_ f.signs[i.toNat].part
  ·simp
  simp[aY,h2];exact BH kinds _ (by omega)
def HU (r:Realm)(b:Bill)(s:Sign)(B:List Int→Bool):Bool:=
 if s.kind=0 then((((decide (s.who=b.drawer)&&decide (s.sum=0))&&decide (cP .or .i64 s.flags 1=1))&&decide (s.part=0))&&decide (s.day=b.day))&&decide (s.city=b.city)
 else if s.kind=1 then decide (s.who=b.drawee)&&(wi s.sum 1 1099511627776&&decide (s.flags=0))
 else if s.kind=2 then((wi s.to (-1) ((r.firms.length:Int)-1)&&decide (s.sum=0))&&wi s.flags 0 7)&&decide (cP .and .i64 s.flags 6≠6)
 else if s.kind=3 then(decide (s.sum=0)&&decide (s.flags=0))&&B [0,1,2,4]
 else if s.kind=4 then((wi s.sum 1 1099511627776&&decide (s.flags=0))&&decide (s.who≠b.drawee))&&B [0,2]
 else false
def CK (r:Realm)(b:Bill)(i:Nat)(s:Sign)(B:List Int→Bool):Bool:=
 if ¬(i=0↔s.kind=0)∨(¬s.kind=2∧¬s.to=-1) then false
 else if(¬s.kind=3∧¬s.kind=4)∧¬s.for_=-1 then false
 else HU r b s B
def lq (r:Realm)(f:File)(i:Nat):Bool:=CK r f.bill i (f.signs.getD i default) (sm f i)
theorem apg (r:Realm)(hr:Small r)(f:File)(i:Nat)(h:i<f.signs.length)(hl:f.signs.length≤100000):aq T 89 [aZ r,aX f,.int i] (.bool (lq r f i)):=by
 refine .of_tree rfl (lA 29 (by kernel_rfl)) ash ?_;have fe:=hr.firms;have hw:IntKind.i64.wrap ((r.firms.length:Int)-1)=(r.firms.length:Int)-1:=bL (by omega);have hs:f.signs.getD i default=f.signs[i]:=by simp[h]
 have qN:=fun ks hk=>ape f i ks ⟨by omega,by omega⟩ hl hk;unfold lq;rw[hs];generalize hB:sm f i=B at qN ⊢;generalize hX:CK r f.bill i f.signs[i] B=X;simp[S8,h];generalize f.signs[i]=s at*;unfold CK at hX;by_cases h1:¬(i=0↔s.kind=0)∨(¬s.kind=2∧¬s.to=-1)
 ·rw[if_pos h1] at hX ⊢;exact hX.symm
 rw[if_neg h1] at hX ⊢;by_cases h2:(¬s.kind=3∧¬s.kind=4)∧¬s.for_=-1
 ·rw[if_pos h2] at hX ⊢;exact hX.symm
 rw[if_neg h2] at hX ⊢;refine⟨_,eO _ _ _,?_⟩;unfold HU at hX;by_cases k0:s.kind=0
 ·rw[if_pos k0] at hX ⊢;rw[←hX];by_cases a:(((s.who=f.bill.drawer∧s.sum=0)∧cP BinOp.or IntKind.i64 s.flags 1=1)∧s.part=0)∧s.day=f.bill.day
  ·simp[a]
  ·rw[if_neg a]
   congr 1
   rw[eq_comm,Vc];intro e;simp at e;exact a e.1
 rw[if_neg k0] at hX ⊢;by_cases k1:s.kind=1
 ·rw[if_pos k1] at hX ⊢;rw[←hX];by_cases a:s.who=f.bill.drawee<;>cases wi s.sum 1 1099511627776<;>simp[a]
 rw[if_neg k1] at hX ⊢;by_cases k2:s.kind=2
 ·rw[if_pos k2] at hX ⊢;rw[←hX,hw];refine⟨_,eO _ _ _,?_⟩;cases wi s.to (-1) ((r.firms.length:Int)-1)
  ·simp
  by_cases a:s.sum=0
  case neg=>simp[a]
  simp[a];refine⟨_,eO _ _ _,?_⟩;cases wi s.flags 0 7<;>simp
 rw[if_neg k2] at hX ⊢;by_cases k3:s.kind=3
 ·rw[if_pos k3] at hX ⊢;rw[←hX];by_cases a:s.sum=0∧s.flags=0
  case neg=>
   rw[if_neg a,if_neg a]
   congr 1
   rw[eq_comm,Vc];intro e;simp at e;exact a e.1
  rw[if_pos a];refine⟨_,qN [0,1,2,4] (by decide),?_⟩;simp[a]
 rw[if_neg k3] at hX ⊢;by_cases k4:s.kind=4
 ·rw[if_pos k4] at hX ⊢;rw[←hX];cases wi s.sum 1 1099511627776
  ·simp
  by_cases a:s.flags=0∧¬s.who=f.bill.drawee
  case neg=>
   simp[a]
  simp[a];exact qN [0,2] (by decide)
 rw[if_neg k4] at hX ⊢;exact hX.symm
end Rm
namespace Rm
open Go Go.Proofs Cx
def gq (f:File)(i:Nat):Int:=if i=0 then f.bill.day else(f.signs.getD (i-1) default).day
def mJ (f:File)(i:Nat)(s:Sign):Bool:=(f.signs.take i).any fun x=>(decide (s.kind=1)&&decide (x.kind=1))&&decide (x.part=s.part)
def signE (r:Realm)(f:File)(i:Nat):Int:=
 let s:=f.signs.getD i default
 if wi s.part 0 (f.bill.parts-1)=false then 15
 else if au s.who r.firms.length=false∨au s.city r.cities.length=false then 1
 else if wi s.day (gq f i) 100000=false∨(i=0∧¬s.day=gq f i) then 13
 else if lq r f i=false then 14
 else if mJ f i s=true then 5 else 0
theorem abC (r:Realm)(hr:Small r)(f:File)(hp:1≤f.bill.parts∧f.bill.parts≤4)(i:Nat)(h:i<f.signs.length)(hl:f.signs.length≤100000):aq T 67 [aZ r,aX f,.int i] (.int (signE r f i)):=by
 refine .of_tree rfl (lA 27 (by kernel_rfl)) asj ?_;have fe:=hr.firms;have NA:=hr.cities;have fm:IntKind.i64.wrap ((r.firms.length:Int)-1)=(r.firms.length:Int)-1:=bL (by omega);have db:IntKind.i64.wrap ((r.cities.length:Int)-1)=(r.cities.length:Int)-1:=bL (by omega);have xc:IntKind.i64.wrap (f.bill.parts-1)=f.bill.parts-1:=bL (by omega);have hs:f.signs.getD i default=f.signs[i]:=by simp[h]
 generalize hX:signE r f i=X;unfold signE at hX;simp only[hs] at hX;simp[Ta,h,fm,db,xc];refine⟨_,eO _ _ _,?_⟩;cases a1:wi f.signs[i].part 0 (f.bill.parts-1)
 ·simpa [a1] using hX
 simp[a1] at hX ⊢;refine⟨_,eO _ _ _,?_⟩;rw[iT] at hX;cases a2:wi f.signs[i].who 0 ((r.firms.length:Int)-1)
 ·simpa [a2] using hX
 simp[a2] at hX ⊢;refine⟨_,eO _ _ _,?_⟩;rw[iT] at hX;cases a3:wi f.signs[i].city 0 ((r.cities.length:Int)-1)
 ·simpa [a3] using hX
 simp[a3] at hX ⊢;refine⟨by omega,?_⟩;have IF:min i f.signs.length=i:=by omega
 refine aP.forRounds i (fun k=>[.int (gq f k),.bool ((f.signs.take k).any fun x=>(decide (f.signs[i].kind=1)&&decide (x.kind=1))&&decide (x.part=f.signs[i].part)),.int k]) (fun _=>[]) ?_ (fun k hk=>?_) ?_
 ·simp[gq]
 ·have hw:=bn hk (by omega);have aW:k<f.signs.length:=by omega
  have hf:gq f (k+1)=f.signs[k].day:=by simp[gq,aW]
  rw[nJ aW,List.any_append];generalize ((f.signs.take k).any fun x=>(decide (f.signs[i].kind=1)&&decide (x.kind=1))&&decide (x.part=f.signs[i].part))=A;simp[acG,Ko,hk,aW,h,hw,hf,IF];cases A
  ·by_cases e1:f.signs[i].kind=1<;>by_cases e2:f.signs[k].kind=1<;>simp[e1,e2]
  ·simp
 ·have ht:mJ f i f.signs[i]=true↔∃x,x∈List.take i f.signs∧(f.signs[i].kind=1∧x.kind=1)∧x.part=f.signs[i].part:=by simp[mJ]
  simp[acG,Ko,IF,h];refine⟨_,eO _ _ _,?_⟩;by_cases a4:wi f.signs[i].day (gq f i) 100000=false∨(i=0∧¬f.signs[i].day=gq f i)
  ·rw[if_pos a4] at hX;rw[if_pos (by simpa using a4)];exact hX
  rw[if_neg a4] at hX;rw[if_neg (by simpa using a4)];refine⟨_,apg r hr f i h hl,?_⟩;cases a5:lq r f i
  ·simpa [a5] using hX
  simp[a5] at hX;simp only[MO,if_true];rw[←hX];by_cases a6:mJ f i f.signs[i]=true
  ·rw[if_pos a6,if_pos (ht.1 a6)]
  ·rw[if_neg a6,if_neg (fun x=>a6 (ht.2 x))]
def yq (a:Act)(to at_ own:Bool):Bool:=
 if a.kind=0∨a.kind=1∨a.kind=2 then(to&&decide (a.at_=-1))&&decide (a.sum=0)
 else if a.kind=3∨a.kind=4∨a.kind=5 then((to&&decide (a.at_=-1))&&wi a.sum 0 1099511627776)&&wi a.form 0 1
 else if a.kind=6 then(to&&own)&&wi a.sum 1 1099511627776
 else if a.kind=9 then(decide (a.to=-1)&&own)&&decide (a.sum=0)
 else(decide (a.to=-1)&&at_)&&decide (a.sum=0)
def mV (f:File)(a:Act):Bool:=au a.at_ f.signs.length&&kC f a.at_ a.part
def va (f:File)(a:Act):Bool:=mV f a&&decide ((bD f a.at_).who=a.who)
def actB (r:Realm)(f:File)(a:Act):Bool:=
 if au a.who r.firms.length=false∨(¬a.kind=4∧¬a.form=0) then false else yq a (au a.to r.firms.length) (mV f a) (va f a)
theorem apc (r:Realm)(hr:Small r)(f:File)(a:Act)(hl:f.signs.length≤100000):aq T 90 [aZ r,aX f,gH a] (.bool (actB r f a)):=by
 refine .of_tree rfl (lA 35 (by kernel_rfl)) asd ?_;have fe:=hr.firms;have fm:IntKind.i64.wrap ((r.firms.length:Int)-1)=(r.firms.length:Int)-1:=bL (by omega);have db:IntKind.i64.wrap ((f.signs.length:Int)-1)=(f.signs.length:Int)-1:=bL (by omega);generalize hX:actB r f a=X;unfold actB va mV at hX;simp[S4,fm,db];refine⟨_,eO _ _ _,?_⟩;rw[←iT];have Aj:=eO a.to 0 ((r.firms.length:Int)-1);have DT:=eO a.who 0 ((r.firms.length:Int)-1);rw[←iT] at Aj DT;generalize au a.to r.firms.length=tt at*;generalize au a.who r.firms.length=ww at*;have fin:∀at_ own:Bool,(if ww=false∨(¬a.kind=4∧¬a.form=0) then false else yq a tt at_ own)=X→
  if ww=false∨(¬a.kind=4∧¬a.form=0) then X=false
  else if a.kind=0∨a.kind=1∨a.kind=2 then(if tt=true∧a.at_=-1 then D.bool (decide (a.sum=0)) else D.bool false)=D.bool X
  else if a.kind=3∨a.kind=5∨a.kind=4 then
        if tt=true∧a.at_=-1 then
         ∃d,aq (dV tab ext) 68 [D.int a.sum,D.int 0,D.int 1099511627776] d∧
          if(tt=true∧a.at_=-1)∧d.b=true then
             ∃Cl,aq (dV tab ext) 68 [D.int a.form,D.int 0,D.int 1] Cl∧(if(tt=true∧a.at_=-1)∧d.b=true then Cl else D.bool false)=D.bool X
          else(if(tt=true∧a.at_=-1)∧d.b=true then D.none else D.bool false)=D.bool X
        else D.bool false=D.bool X
  else if a.kind=6 then
        if tt=true∧own=true then ∃Cl,aq (dV tab ext) 68 [D.int a.sum,D.int 1,D.int 1099511627776] Cl∧(if tt=true∧own=true then Cl else D.bool false)=D.bool X
        else(if tt=true∧own=true then D.none else D.bool false)=D.bool X
  else if a.kind=9 then(if a.to=-1∧own=true then D.bool (decide (a.sum=0)) else D.bool false)=D.bool X
  else(if a.to=-1∧at_=true then D.bool (decide (a.sum=0)) else D.bool false)=D.bool X:=by
  intro at_ own hX;by_cases p:ww=false∨(¬a.kind=4∧¬a.form=0)
  ·rw[if_pos p] at hX ⊢;exact hX.symm
  rw[if_neg p] at hX ⊢;unfold yq at hX;by_cases k0:a.kind=0∨a.kind=1∨a.kind=2
  ·rw[if_pos k0] at hX ⊢;rw[←hX];by_cases e:tt=true∧a.at_=-1
   ·simp[e]
   ·rw[if_neg e];cases tt<;>simp at e ⊢;simp[e]
  rw[if_neg k0] at hX ⊢;by_cases k3:a.kind=3∨a.kind=4∨a.kind=5
  ·rw[if_pos k3] at hX;rw[if_pos (by omega),←hX];by_cases e:tt=true∧a.at_=-1
   ·rw[if_pos e];refine⟨_,eO _ _ _,?_⟩;cases wi a.sum 0 1099511627776
    ·simp
    ·simp[e];exact eO _ _ _
   ·rw[if_neg e];cases tt<;>simp at e ⊢;simp[e]
  rw[if_neg k3] at hX;rw[if_neg (by omega)];by_cases k6:a.kind=6
  ·rw[if_pos k6] at hX ⊢;rw[←hX];by_cases e:tt=true∧own=true
   ·rw[if_pos e];refine⟨_,eO _ _ _,?_⟩;simp[e]
   ·rw[if_neg e,if_neg e];cases tt<;>cases own<;>simp at e ⊢
  rw[if_neg k6] at hX ⊢;by_cases k9:a.kind=9
  ·rw[if_pos k9] at hX ⊢;rw[←hX];cases own<;>by_cases e:a.to=-1<;>simp[e]
  rw[if_neg k9] at hX ⊢;rw[←hX];cases at_<;>by_cases e:a.to=-1<;>simp[e]
 cases h1:au a.at_ f.signs.length
 ·have hf:=fin false false (by simpa [h1] using hX);simp at hf ⊢;refine⟨_,Aj,_,DT,?_⟩;simpa using hf
 have cE:0≤a.at_∧a.at_<f.signs.length:=by simpa [au] using h1
 have h2:a.at_.toNat<f.signs.length:=by omega
 have hs:bD f a.at_=f.signs[a.at_.toNat]:=by simp[bD,h2]
 simp[cE];refine⟨_,abD f _ _ (.inr cE),_,Aj,_,DT,?_⟩;rw[h1,hs] at hX;have hf:=fin _ _ hX;cases h3:kC f a.at_ a.part
 ·rw[h3] at hf;simpa using hf
 ·rw[h3] at hf;simpa [h2] using hf
theorem Jl (a b:Int):(if a<b then b else a)=max a b:=by split<;>omega
theorem Pv (a b:Int):(if a<b then D.int b else D.int a)=D.int (max a b):=by
 rw[←Jl];split<;>rfl
def leastDay (f:File)(i:Nat)(a:Act):Int:=
 let x:=if a.at_=-1 then f.bill.day else max f.bill.day (bD f a.at_).day
 if i=0 then x else max x (f.acts.getD (i-1) default).day
def gl (r:Realm)(f:File)(i:Nat):Int:=
 let a:=f.acts.getD i default
 if wi a.part 0 (f.bill.parts-1)=false then 15
 else if au a.city r.cities.length=false∨wi a.kind 0 9=false then 1
 else if actB r f a=false then 14
 else if wi a.day (leastDay f i a) 100000=false then 13 else 0
theorem yp {r:Realm}{f:File}{a:Act}(h:actB r f a=true)(hn:¬a.at_=-1):0≤a.at_∧a.at_<f.signs.length:=by
 unfold actB at h;split at h
 ·cases h
 have key:mV f a=true→0≤a.at_∧a.at_<f.signs.length:=fun e=>by
  unfold mV at e;simp only[ao] at e;simpa [au] using e.1
 unfold yq va at h
 repeat' split at h
 all_goals simp only[ao,decide_eq_true_eq] at h
 ·exact absurd h.1.2 hn
 ·exact absurd h.1.1.2 hn
 ·exact key h.1.2.1
 ·exact key h.1.2.1
 ·exact key h.1.2
theorem apd (r:Realm)(hr:Small r)(f:File)(hp:1≤f.bill.parts∧f.bill.parts≤4)(hl:f.signs.length≤100000)(wQ:f.acts.length≤100000):aq T 69 [aZ r,aX f] (.int (cK f.acts.length (gl r f))):=by
 refine .of_tree rfl (lA 34 (by kernel_rfl)) ase ?_;have NA:=hr.cities;have db:IntKind.i64.wrap ((r.cities.length:Int)-1)=(r.cities.length:Int)-1:=bL (by omega);have xc:IntKind.i64.wrap (f.bill.parts-1)=f.bill.parts-1:=bL (by omega);simp[S5];refine oN f.acts.length (gl r f) (fun k=>[.int 0,.int k]) (fun _=>[]) ?_ (fun k hk ho=>?_) (fun k hk ho hb=>?_) (fun hj=>?_)
 ·simp
 case' refine_2=>have hb:gl r f k=gl r f k:=rfl
 case' refine_3=>rw[hb]
 case refine_4=>simp[acE,Kl,hj]
 all_goals
  have hw:=bn hk (by omega);have hs:f.acts.getD k default=f.acts[k]:=by simp[hk]
  clear hb;generalize hX:gl r f k=X at*;unfold gl at hX;simp only[hs] at hX;simp[acE,Kl,hk,db,xc,hw];refine⟨_,eO _ _ _,?_⟩;cases a1:wi f.acts[k].part 0 (f.bill.parts-1)
  ·simp[a1] at hX ⊢
   first|exact hX|(exfalso;omega)
  simp[a1] at hX ⊢;refine⟨_,eO _ _ _,?_⟩;rw[iT] at hX;cases a2:wi f.acts[k].city 0 ((r.cities.length:Int)-1)
  ·simp[a2] at hX ⊢
   first|exact hX|(exfalso;omega)
  simp[a2] at hX ⊢;refine⟨_,eO _ _ _,?_⟩;cases a3:wi f.acts[k].kind 0 9
  ·simp[a3] at hX ⊢
   first|exact hX|(exfalso;omega)
  simp[a3] at hX ⊢;refine⟨_,apc r hr f f.acts[k] hl,?_⟩;cases a4:actB r f f.acts[k]
  ·simp[a4] at hX ⊢
   first|exact hX|(exfalso;omega)
  simp[a4] at hX ⊢;unfold leastDay at hX;by_cases k0:k=0
  ·subst k0;by_cases e1:f.acts[0].at_=-1
   ·simp[e1] at hX;simp[e1];refine⟨_,eO _ _ _,?_⟩;split at hX
    ·rename_i e;simp[e]
     first|exact hX|(exfalso;omega)
    ·rename_i e
     first|(exfalso;omega)|simp[e]
   ·obtain⟨h5,h6⟩:=yp a4 e1;have h7:f.acts[0].at_.toNat<f.signs.length:=by omega
    have h8:bD f f.acts[0].at_=f.signs[f.acts[0].at_.toNat]:=by simp[bD,h7]
    simp[e1,h8] at hX;simp[e1,h5,h6,h7,Pv,Jl];refine⟨_,eO _ _ _,?_⟩;split at hX
    ·rename_i e;simp[e]
     first|exact hX|(exfalso;omega)
    ·rename_i e
     first|(exfalso;omega)|simp[e]
  ·have bl:IntKind.i64.wrap ((k:Int)-1)=(k:Int)-1:=bL (by omega);have bE:((k:Int)-1).toNat=k-1:=by omega
   have eG:k-1<f.acts.length:=by omega
   have m6:0<k:=by omega
   by_cases e1:f.acts[k].at_=-1
   ·simp[k0,e1,eG] at hX;simp[e1,m6,bl,bE,eG,Pv,Jl];refine⟨by omega,_,eO _ _ _,?_⟩;split at hX
    ·rename_i e;simp[e]
     first|exact hX|(exfalso;omega)
    ·rename_i e
     first|(exfalso;omega)|simp[e]
   ·obtain⟨h5,h6⟩:=yp a4 e1;have h7:f.acts[k].at_.toNat<f.signs.length:=by omega
    have h8:bD f f.acts[k].at_=f.signs[f.acts[k].at_.toNat]:=by simp[bD,h7]
    simp[k0,e1,eG,h8] at hX;simp[e1,m6,bl,bE,eG,h5,h6,h7,Pv,Jl];refine⟨by omega,_,eO _ _ _,?_⟩;split at hX
    ·rename_i e;simp[e]
     first|exact hX|(exfalso;omega)
    ·rename_i e
     first|(exfalso;omega)|simp[e]
end Rm
namespace Rm
open Go Go.Proofs Cx
def pq (a b:Int):Int:=if a<b then-1 else if b<a then 1 else 0
theorem YJ (a:Int):aq T 119 [.int a] (.bool false):=by
 refine .of_tree rfl (lA 38 (by kernel_rfl)) arO ?_;simp[SB]
theorem Vf (a b:Int):aq T 92 [.int a,.int b] (.int (pq a b)):=by
 refine .of_tree rfl (lA 37 (by kernel_rfl)) arM ?_;simp[Sz];refine⟨_,YJ a,_,YJ b,?_⟩;unfold pq;by_cases h1:a<b
 ·simp[h1]
 by_cases h2:b<a<;>simp[h1,h2]
theorem aen (l:List Int)(hl:l.length≤100000):aq T 91 [ints l] (.int (cK l.length fun k=>l.getD k 0)):=by
 refine .of_tree rfl (lA 39 (by kernel_rfl)) arN ?_;simp[SA];refine oN l.length (fun k=>l.getD k 0) (fun k=>[.int 0,.int k]) (fun _=>[]) ?_ (fun k hk ho=>?_) (fun k hk ho hb=>?_) (fun hj=>?_)
 ·simp
 ·have hw:=bn hk (by omega);have hx:l[k]=0:=by simpa [hk] using ho
  simp[Q3,Ez,hk,hx,hw]
 ·have hx:¬l[k]=0:=by simpa [hk] using ho
  simp only[aJ] at hb ⊢;rw[hb];simp[Q3,Ez,hk,hx]
 ·simp only[aJ] at hj ⊢;rw[hj];simp[Q3,Ez]
theorem or2 (a b:Int):(cK 2 fun k=>[a,b].getD k 0)=if a=0 then b else a:=by
 have e:List.range 2=[0,1]:=rfl;unfold cK;rw[e];by_cases ha:a=0<;>by_cases hb:b=0<;>simp[ha,hb]
def mU (x y:Fact):Prop:=x.at_<y.at_∨(x.at_=y.at_∧x.kind<y.kind)
instance (x y:Fact):Decidable (mU x y):=by unfold mU;infer_instance
theorem aeB (x y:Fact):0≤(if pq x.at_ y.at_=0 then pq x.kind y.kind else pq x.at_ y.at_)↔¬mU x y:=by
 unfold pq mU
 repeat' split
 all_goals omega
def iJ (f:File)(i:Nat):Int:=
 let x:=f.facts.getD i default
 if wi x.kind 0 4=false then 1 else if au x.at_ f.signs.length=false then 1 else if wi x.n 0 1=false then 1
 else if i=0 then 0 else if mU (f.facts.getD (i-1) default) x then 0 else 5
theorem apf (f:File)(hl:f.signs.length≤100000)(hlf:f.facts.length≤100000):aq T 70 [aX f] (.int (cK f.facts.length (iJ f))):=by
 refine .of_tree rfl (lA 36 (by kernel_rfl)) asg ?_;have db:IntKind.i64.wrap ((f.signs.length:Int)-1)=(f.signs.length:Int)-1:=bL (by omega);simp[S7];refine oN f.facts.length (iJ f) (fun k=>[.int 0,.int k]) (fun _=>[]) ?_ (fun k hk ho=>?_) (fun k hk ho hb=>?_) (fun hj=>?_)
 ·simp
 case' refine_2=>have hb:iJ f k=iJ f k:=rfl
 case' refine_3=>rw[hb]
 case refine_4=>simp[acF,Km,hj]
 all_goals
  have hw:=bn hk (by omega);have hs:f.facts.getD k default=f.facts[k]:=by simp[hk]
  clear hb;generalize hX:iJ f k=X at*;unfold iJ at hX;simp only[hs] at hX;simp[acF,Km,hk,db,hw];refine⟨_,eO _ _ _,?_⟩;cases a1:wi f.facts[k].kind 0 4
  ·simp[a1] at hX ⊢
   first|exact hX|(exfalso;omega)
  simp[a1] at hX ⊢;refine⟨_,eO _ _ _,?_⟩;rw[iT] at hX;cases a2:wi f.facts[k].at_ 0 ((f.signs.length:Int)-1)
  ·simp[a2] at hX ⊢
   first|exact hX|(exfalso;omega)
  simp[a2] at hX ⊢;refine⟨_,eO _ _ _,?_⟩;cases a3:wi f.facts[k].n 0 1
  ·simp[a3] at hX ⊢
   first|exact hX|(exfalso;omega)
  simp[a3] at hX ⊢;by_cases k0:k=0
  ·subst k0;simp at hX ⊢
   first|(exfalso;omega)|done
  ·have bl:IntKind.i64.wrap ((k:Int)-1)=(k:Int)-1:=bL (by omega);have bE:((k:Int)-1).toNat=k-1:=by omega
   have eG:k-1<f.facts.length:=by omega
   simp[k0,eG] at hX;simp[k0,bl,bE,eG];refine⟨by omega,_,Vf _ _,_,Vf _ _,?_⟩;have ho:=aen [pq f.facts[k-1].at_ f.facts[k].at_,pq f.facts[k-1].kind f.facts[k].kind] (by simp);simp only[nI,yj] at ho;rw[or2] at ho;refine⟨_,ho,?_⟩;have ha:=aeB f.facts[k-1] f.facts[k];generalize (if pq f.facts[k-1].at_ f.facts[k].at_=0 then pq f.facts[k-1].kind f.facts[k].kind else pq f.facts[k-1].at_ f.facts[k].at_)=n at*;clear ho;by_cases e:mU f.facts[k-1] f.facts[k]
   ·have hn:¬0≤n:=fun h=>ha.1 h e;simp[e] at hX;simp[hn]
    first|done|(exfalso;omega)
   ·have hn:0≤n:=ha.2 e;simp[e] at hX;simp[hn]
    first|exact hX|(exfalso;omega)
def iI (f:File)(i:Nat):Int:=
 let x:=f.alters.getD i default
 if wi x.at_ ((if i=0 then 0 else(f.alters.getD (i-1) default).at_)+1) f.signs.length=false then 1 else if wi x.sum 1 1099511627776=false then 3 else 0
structure PaperOK (r:Realm) (f:File):Prop where
 full:(f.signs.length≤40∧f.alters.length≤4)∧f.acts.length≤100∧f.facts.length≤200
 bill:BillOK r f.bill
 ne:f.signs≠[]
 signs:cK f.signs.length (signE r f)=0
 alters:cK f.alters.length (iI f)=0
 acts:cK f.acts.length (gl r f)=0
 facts:cK f.facts.length (iJ f)=0
theorem abB (r:Realm)(hs:Small r)(f:File)(l6:f.OK):∃d,aq T 36 [aZ r,aX f] d∧oW (PaperOK r f) d:=by
 refine aq.ex_of_tree rfl aeT asc ?_;simp[SZ];by_cases hf:(f.signs.length≤40∧f.alters.length≤4)∧f.acts.length≤100∧f.facts.length≤200
 case neg=>
  rw[if_pos (by omega)];exact .no (fun h=>hf h.full) (by decide)
 rw[if_neg (by omega)];obtain⟨d,hb,e,rfl,he⟩:=aul r hs f.bill;refine⟨_,hb,?_⟩;by_cases e0:e=0
 case neg=>
  simp[e0];exact .no (fun h=>e0 (he.2 h.bill)) e0
 have C5:=he.1 e0;simp[e0];by_cases ay:f.signs=[]
 ·simp[ay];exact .no (fun h=>h.ne ay) (by decide)
 simp[ay];refine oN f.signs.length (signE r f) (fun k=>[.int 0,.int k]) (fun _=>[]) ?_ (fun k hk ho=>?_) (fun k hk ho hb=>?_) (fun hj=>?_)
 ·simp
 ·have hw:=bn hk (by omega);simp[Q9,EE,hk,hw];refine⟨_,abC r hs f C5.parts k hk (by omega),?_⟩;simp[ho]
 ·simp[Q9,EE,hk];refine⟨_,abC r hs f C5.parts k hk (by omega),?_⟩;simp[ho];exact .no (fun h=>ho (by rw[←hb];exact h.signs)) ho
 simp[Q9,EE];have kQ:∀k,k<f.alters.length→(∀j,j<k→iI f j=0)→IntKind.i64.wrap ((if k=0 then 0 else(f.alters.getD (k-1) default).at_)+1)=(if k=0 then 0 else(f.alters.getD (k-1) default).at_)+1:=by
  intro k hk hj;refine bL ?_;by_cases k0:k=0
  ·rw[if_pos k0];omega
  ·rw[if_neg k0];have h1:=hj (k-1) (by omega);have bl:k-1<f.alters.length:=by omega
   have h2:=(l6.2.2.1.2 _ (de bl)).1;have h3:f.alters.getD (k-1) default=f.alters[k-1]:=by simp[bl]
   unfold iI at h1;rw[h3] at h1 ⊢;simp only at h1;generalize (if k-1=0 then(0:Int) else(f.alters.getD (k-1-1) default).at_)=L0 at h1;split at h1
   ·cases h1
   ·rename_i hh;simp[wi] at hh;unfold aN at h2;omega
 refine aP.scan f.alters.length (fun k=>iI f k=0) (fun k=>[.int 0,.int (if k=0 then 0 else(f.alters.getD (k-1) default).at_),.int k]) (fun _=>[]) ?_ (fun k hk qU ho=>?_) (fun k hk qU ho=>?_) (fun wO=>?_)
 ·simp
 ·have hw:=bn hk (by omega);have hl:=kQ k hk qU;generalize hL:(if k=0 then 0 else(f.alters.getD (k-1) default).at_)=L at*;have hs:f.alters.getD k default=f.alters[k]:=by simp[hk]
  unfold iI at ho;simp only[hs,hL] at ho;simp[Ra,EF,hk,hl];refine⟨_,eO _ _ _,?_⟩;cases a1:wi f.alters[k].at_ (L+1) f.signs.length
  ·simp[a1] at ho
  simp[a1] at ho ⊢;refine⟨_,eO _ _ _,?_⟩;simp[ho,hw]
 ·have hl:=kQ k hk qU;have Df:=HS hk qU ho;generalize hL:(if k=0 then 0 else(f.alters.getD (k-1) default).at_)=L at*;have hs:f.alters.getD k default=f.alters[k]:=by simp[hk]
  have bad:∀e:Int,e≠0→oW (PaperOK r f) (.int e):=fun e h=>.no (fun h=>ho (by rw[←Df];exact h.alters)) h;unfold iI at ho;simp only[hs,hL] at ho;simp[Ra,EF,hk,hl];refine⟨_,eO _ _ _,?_⟩;cases a1:wi f.alters[k].at_ (L+1) f.signs.length
  ·simp;exact bad 1 (by decide)
  simp[a1] at ho ⊢;refine⟨_,eO _ _ _,?_⟩;simp[ho];exact bad 3 (by decide)
 have wO:=HT wO;simp[Ra,EF];refine⟨_,apd r hs f C5.parts (by omega) (by omega),?_⟩;by_cases e3:cK f.acts.length (gl r f)=0
 case neg=>
  simp[e3];exact .no (fun h=>e3 h.acts) e3
 simp[e3];refine⟨_,apf f (by omega) (by omega),?_⟩;exact⟨_,rfl,fun h=>⟨hf,C5,ay,hj,wO,e3,h⟩,fun h=>h.facts⟩
end Rm
namespace Rm
open Go Go.Proofs Cx
theorem aeH (o:Order)(q:Int)(cs:List Cell)(hq:(lQ q).1=0)(hk:(qB o q cs).1.known=true):0≤(qB o q cs).1.n∧(qB o q cs).1.n≤20000:=by
 unfold qB at hk ⊢;split at hk
 ·cases hk
 ·rename_i h;rw[if_neg h];simp only at hk ⊢;split at hk
  ·rename_i h2;rw[if_pos h2];simp only;omega
  ·rename_i h2;exact absurd ⟨hq,hk⟩ h2
theorem aeQ (r:Realm)(aD q:Int)(c:Case)(hq:(lQ q).1=0)(hk:(ph r aD q c).cell.known=true):0≤(ph r aD q c).cell.n∧(ph r aD q c).cell.n≤20000:=by
 unfold ph at hk ⊢;split at hk
 ·rename_i h;exfalso;have:(jb r aD q c).1.cell=eA:=by
   unfold jb
   repeat' split
   all_goals rfl
  rw[this] at hk;cases hk
 ·rename_i h;rw[if_neg h];exact aeH _ _ _ hq hk
theorem aof (r:Realm)(aD q:Int)(c:Case)(hq:(lQ q).1=0):uY (ph r aD q c)=-1∨(0≤uY (ph r aD q c)∧uY (ph r aD q c)≤20000):=by
 unfold uY;split
 ·exact .inl rfl
 ·rename_i h;refine .inr (aeQ r aD q c hq ?_);cases e:(ph r aD q c).cell.known
  ·exact absurd (.inr e) h
  ·rfl
def py:List Objection→Int→Bool
 |[],last=>decide (last≤100000)
 |c::l,last=> !decide (c.day<last)&&py l c.day
def xX (last day:Int)(o:Objection):Bool:=o.shows&&decide (o.day≤last)&&decide (o.day≤day)
def Se (right:Bool)(aup notice term:Int)(title:Bool)(cs:List Objection)(day:Int):Int:=
 if right=false∨day<aup then 0 else if term=-1∨title=false then 0 else if cs.any (xX (notice+term) day)=true then 0 else if notice+term<day then 1 else 2
end Rm
namespace Rm
open Go Go.Proofs Cx
@[simp] theorem axL (f:Nat)(l:List D):(D.clo f l).cells=[D.clo f l]:=_root_.id rfl
theorem aea (l:List Objection)(f:Nat)(caps:List D)(g:Nat→Bool)(hg:∀k (hk:k<l.length),aq T f (pC l[k]::caps) (.bool (g k)))(hl:l.length≤4294967296):
 aq T 71 [u7 l,.clo f caps] (.int (mg l.length g)):=by
 refine .of_tree rfl (lA 47 (by kernel_rfl)) atq ?_;simp[Ug];refine .scan l.length (fun k=>g k=false) (fun k=>[.int 0,.int k]) (fun _=>[]) ?_ (fun k hk hj ho=>?_) (fun k hk hj ho=>?_) (fun hj=>?_)
 ·simp
 ·have hw:=bn hk hl;simp[RM,Fg,hk,hw];refine⟨_,_,⟨rfl,rfl⟩,_,hg k hk,?_⟩;simp[ho,hw]
 ·have he:=I4 hk (by simpa using ho) hj;simp[RM,Fg,hk,he];refine⟨_,_,⟨rfl,rfl⟩,_,hg k hk,?_⟩;simp[ho]
 ·have he:=I3 hj;simp[RM,Fg,he]
theorem ad6 (l:List Objection)(f:Nat)(caps:List D)(g:Nat→Bool)(hg:∀k (hk:k<l.length),aq T f (pC l[k]::caps) (.bool (g k)))(hl:l.length≤4294967296):
 aq T 43 [u7 l,.clo f caps] (.bool ((List.range l.length).any g)):=by
 refine .of_tree rfl (lA 46 (by kernel_rfl)) atl ?_;simp[Ub];refine⟨_,aea l f caps g hg hl,?_⟩;have:=O8 l.length g;simp[←this]
theorem Zx (r:Realm)(n:Int):aq T 38 [aZ r,.int n] (.bool (au n r.firms.length)):=by
 refine .of_tree rfl (lA 41 (by kernel_rfl)) ar7 ?_;simp[SU,au];by_cases h:0≤n<;>simp[h]
def px (f:File)(x:Lost):Bool:= !decide (x.day<f.bill.day)&& !decide (x.notice<x.day)&&py x.claims x.notice
theorem amt (f:File)(x:Lost)(hl:x.claims.length≤1000):aq T 45 [aX f,fb x] (.bool (px f x)):=by
 refine .of_tree rfl (lA 49 (by kernel_rfl)) ar6 ?_;unfold px;simp[SS];by_cases h1:x.day<f.bill.day
 ·simp[h1];omega
 by_cases h2:x.notice<x.day
 ·simp[h1,h2];omega
 rw[if_neg (by omega)];have hd:(!decide (x.day<f.bill.day)&& !decide (x.notice<x.day)&&py x.claims x.notice)=py x.claims x.notice:=by simp[h1,h2]
 rw[hd];refine aP.forLoop (α:=Nat×Int) (fun s vr vo=>s.1≤x.claims.length∧vr=[.bool false,.int s.2,.int s.1]∧vo=[]∧py x.claims x.notice=py (x.claims.drop s.1) s.2) (fun s=>x.claims.length-s.1) (0,x.notice) ?_ ?_
 ·simp
 ·rintro⟨k,last⟩ vr vo ⟨hk,rfl,rfl,hD⟩;simp only at hk hD;by_cases ah:k<x.claims.length
  ·have hw:=bn ah (by omega);rw[Lj ah] at hD;simp only[py] at hD;simp[acD,Kk,ah,hw];by_cases hc:x.claims[k].day<last
   ·rw[if_pos hc,hD];simp[hc]
   ·rw[if_neg hc];refine⟨k+1,by omega,by omega,x.claims[k].day,⟨rfl,by simp⟩,?_⟩;rw[hD];simp[hc]
  ·obtain rfl:k=x.claims.length:=by omega
   simp[acD,Kk];rw[hD];simp[py]
def FG (r:Realm)(x:Lost):Bool:=(List.range x.claims.length).any fun k=> !au (x.claims.getD k default).firm r.firms.length
def mi (r:Realm)(f:File)(x:Lost)(e:Int):Int:=
 if e≠0 then e else if au x.part f.bill.parts=false then 15 else if au x.by_ r.firms.length=false then 1 else if 20<x.claims.length then 6 else if FG r x=true then 1 else if px f x=false then 13 else 0
theorem Zv (r:Realm)(f:File)(x:Lost)(e:Int)(he:aq T 36 [aZ r,aX f] (.int e))(hl:x.claims.length≤1000):aq T 17 [aZ r,aX f,fb x] (.int (mi r f x e)):=by
 refine .of_tree rfl (lA 4 (by kernel_rfl)) ar4 ?_;simp[SK];refine⟨_,he,?_⟩;by_cases h0:e=0
 case neg=>simp[h0,mi]
 subst h0;simp;have c1:aq T 39 [.ref (fb x),.ref (aX f)] (.bool (!au x.part f.bill.parts)):=by
  refine .of_tree rfl (lA 42 (by kernel_rfl)) arZ ?_;simp[SM,au];by_cases h:x.part<0
  ·simp[h];try omega
  ·have h':0≤x.part:=by omega
   by_cases h2:x.part<f.bill.parts
   ·simp[h,h',h2]
   ·simp[h,h',h2];omega
 have c2:aq T 40 [.ref (aZ r),.ref (fb x)] (.bool (!au x.by_ r.firms.length)):=by
  refine .of_tree rfl (lA 43 (by kernel_rfl)) ar0 ?_;simp[SN];exact⟨_,Zx r _,rfl⟩
 have c3:aq T 41 [.ref (fb x)] (.bool (decide (20<x.claims.length))):=by
  refine .of_tree rfl (lA 44 (by kernel_rfl)) ar1 ?_;simp[SO];omega
 have c4:aq T 42 [.ref (fb x),.ref (.clo 37 [.ref (aZ r)])] (.bool (FG r x)):=by
  refine .of_tree rfl (lA 45 (by kernel_rfl)) ar2 ?_;simp[SP];refine ad6 x.claims _ _ _ (fun k hk=>?_) (by omega);refine .of_tree rfl (lA 40 (by kernel_rfl)) arY ?_;simp[SL];refine⟨_,Zx r _,?_⟩;simp[hk]
 have c5:aq T 44 [.ref (aX f),.ref (fb x)] (.bool (!px f x)):=by
  refine .of_tree rfl (lA 48 (by kernel_rfl)) ar3 ?_;simp[SQ];exact⟨_,amt f x hl,rfl⟩
 unfold mi;rw[if_neg (by decide)];refine .scan 5 (fun k=>(if k=0 then(!au x.part f.bill.parts) else if k=1 then(!au x.by_ r.firms.length) else if k=2 then decide (20<x.claims.length) else if k=3 then FG r x else !px f x)=false) (fun k=>[.int 0,.int k]) (fun _=>[]) ?_ (fun k hk hj ho=>?_) (fun k hk hj ho=>?_) (fun hj=>?_)
 ·simp
 ·have hw:=bn hk (by omega);obtain rfl|rfl|rfl|rfl|rfl:k=0∨k=1∨k=2∨k=3∨k=4:=by omega
  all_goals
   simp at ho;simp[Q7,EC,bO]
  ·refine⟨_,_,⟨rfl,rfl⟩,_,c1,?_⟩;simp[ho]<;>try decide
  ·refine⟨_,_,⟨rfl,rfl⟩,_,c2,?_⟩;simp[ho]<;>try decide
  ·refine⟨_,_,⟨rfl,rfl⟩,_,c3,?_⟩;simp[show ¬20<x.claims.length by omega];decide
  ·refine⟨_,_,⟨rfl,rfl⟩,_,c4,?_⟩;simp[ho]<;>try decide
  ·refine⟨_,_,⟨rfl,rfl⟩,_,c5,?_⟩;simp[ho]<;>try decide
 ·obtain rfl|rfl|rfl|rfl|rfl:k=0∨k=1∨k=2∨k=3∨k=4:=by omega
  all_goals
   have j0:=hj 0;have j1:=hj 1;have j2:=hj 2;have j3:=hj 3;simp at ho j0 j1 j2 j3;simp[Q7,EC,bO]
  ·refine⟨_,_,⟨rfl,rfl⟩,_,c1,?_⟩;simp[ho]
  ·refine⟨_,_,⟨rfl,rfl⟩,_,c2,?_⟩;simp[ho,j0]
  ·refine⟨_,_,⟨rfl,rfl⟩,_,c3,?_⟩;simp[ho,j0,j1]
  ·refine⟨_,_,⟨rfl,rfl⟩,_,c4,?_⟩;simp[ho,j0,j1,show ¬20<x.claims.length by omega]
  ·refine⟨_,_,⟨rfl,rfl⟩,_,c5,?_⟩;simp[ho,j0,j1,j3,show ¬20<x.claims.length by omega]
 ·have j0:=hj 0 (by decide);have j1:=hj 1 (by decide);have j2:=hj 2 (by decide);have j3:=hj 3 (by decide);have j4:=hj 4 (by decide);simp at j0 j1 j2 j3 j4;simp[Q7,EC,j0,j1,j3,j4,show ¬20<x.claims.length by omega]
def oQ (r:Realm)(aD:Int)(f:File)(x:Lost):Int:=uY (Gg r aD 20 f x.day)
def pP (f:File)(x:Lost):Bool:=decide ((dG f x.part x.day).holder=x.by_)&&decide ((dG f x.part x.day).broken=-1)
def j5 (r:Realm)(aD:Int)(f:File)(x:Lost)(e:Int)(day:Int):Int:=
 Se (decide (mi r f x e=0)) x.day x.notice (oQ r aD f x) (pP f x) x.claims day
theorem Zw (r:Realm)(hr:Right r)(aD:Int)(f:File)(hf:FewS f)(x:Lost)(hx:x.OK)(e:Int)(he:aq T 36 [aZ r,aX f] (.int e))(hl:x.claims.length≤1000)(day:Int)
 (hq:(lQ 20).1=0):aq T 16 [aZ r,.int aD,aX f,fb x,.int day] (.int (j5 r aD f x e day)):=by
 refine .of_tree rfl (lA 3 (by kernel_rfl)) ar5 ?_;generalize hX:j5 r aD f x e day=X;unfold j5 Se at hX;simp[SR];refine⟨_,Zv r f x e he hl,?_⟩;by_cases h0:mi r f x e=0
 case neg=>rw[if_pos (by simp[h0])] at hX;subst hX;simp[h0]
 by_cases h1:x.day≤day
 case neg=>rw[if_pos (.inr (by omega))] at hX;subst hX;simp[show day<x.day by omega]
 rw[if_neg (by simp[h0];omega)] at hX;simp[h0,show ¬day<x.day by omega];refine⟨_,aeM r hr aD 20 f x.day hf,_,aeN _,_,yg f x.part x.day hf.acts hf.signs,?_⟩;simp;split
 ·rename_i h2;have iK:oQ r aD f x=-1∨pP f x=false:=by
   rcases h2 with(h2|h2)|h2
   ·exact .inl h2
   ·exact .inr (by simp[pP,h2])
   ·exact .inr (by simp[pP,h2])
  rw[if_pos iK] at hX;exact hX
 rename_i h2;simp only[not_or,Lh] at h2;have hh:pP f x=true:=by simp[pP,h2]
 have iK:¬(oQ r aD f x=-1∨pP f x=false):=by simp only[not_or,hh];exact⟨h2.1.1,by decide⟩
 rw[if_neg iK] at hX;have hd:px f x=true:=by
  unfold mi at h0;cases hd:px f x
  ·rw[hd] at h0
   repeat' split at h0
   all_goals first|(cases h0;done)|omega|(rename_i hq;exact absurd rfl hq)
  ·rfl
 have hn:x.notice≤100000:=by
  simp only[px,ao] at hd;have h2:=hd.2;have key:∀(l:List Objection) (a:Int),py l a=true→a≤100000:=by
   intro l
   induction l with
   |nil=>intro a h;simpa [py] using h
   |cons c l ih=>intro a h;simp[py] at h;have:=ih _ h.2;omega
  exact key _ _ h2
 have ht:0≤oQ r aD f x∧oQ r aD f x≤20000:=by
  rcases aof r aD 20 ⟨{f with facts:=[]},0,-1,-1,-1,x.day⟩ hq with h|h
  ·exact absurd (.inl h) iK
  ·exact h
 have hI:aN x.notice:=hx.2.2.2.2.1;have hw:IntKind.i64.wrap (x.notice+oQ r aD f x)=x.notice+oQ r aD f x:=bL (by unfold aN at hI;omega);have IZ:IntKind.i64.wrap (x.notice+uY (Gg r aD 20 f x.day))=x.notice+oQ r aD f x:=hw;refine .scan x.claims.length (fun k=>xX (x.notice+oQ r aD f x) day (x.claims.getD k default)=false) (fun k=>[.int 0,.int k]) (fun _=>[]) ?_ (fun k hk hj ho=>?_) (fun k hk hj ho=>?_) (fun hj=>?_)
 ·simp[IZ]
 ·have fm:=bn hk (by omega);simp[hk,xX] at ho;simp[Q8,ED,hk,fm,IZ];intro a b c;have:=ho a b;omega
 ·simp[hk,xX] at ho;have Nq:x.claims.any (xX (x.notice+oQ r aD f x) day)=true:=mQ.2 ⟨x.claims[k],de hk,by simp[xX,ho]⟩;rw[if_pos Nq] at hX;subst hX;simp[Q8,ED,hk,IZ,ho]
 ·have Nq:¬x.claims.any (xX (x.notice+oQ r aD f x) day)=true:=fun h=>by
   obtain⟨o,ho,hs⟩:=mQ.1 h;obtain⟨k,hk,rfl⟩:=j7 ho;have:=hj k hk;simp only[aJ,bA hk,iz] at this;rw[hs] at this;cases this
  rw[if_neg Nq] at hX;simp[Q8,ED,IZ];by_cases hc:x.notice+oQ r aD f x<day
  ·rw[if_pos hc] at hX ⊢;exact hX
  ·rw[if_neg hc] at hX ⊢;exact hX
end Rm
namespace Rm
open Go Go.Proofs Cx
def Bt (r:Realm)(x:Lost)(day:Int)(i:Nat):Act:=⟨7,x.by_,-1,x.part,i,0,day,(r.firms.getD x.by_.toNat default).city,0⟩
def oO (g:File)(x:Lost)(held:List Int)(day:Int)(i:Nat):Bool:=
 ((decide ((g.signs.getD i default).kind=2)&&decide ((g.signs.getD i default).part=x.part))&& !hasB held (i:Int))&& !tF g i day
def ld (r:Realm)(g:File)(x:Lost)(held:List Int)(day:Int)(k:Nat):List Act:=((List.range k).filter (oO g x held day)).map (Bt r x day)
theorem ara (r:Realm)(g:File)(x:Lost)(held:List Int)(day:Int)(k:Nat):ld r g x held day (k+1)=ld r g x held day k++if oO g x held day k=true then[Bt r x day k] else[]:=by
 unfold ld;rw[Vt,BK,rU]
 congr 1
 cases h:oO g x held day k<;>simp[List.filter,h]
theorem Sg (r:Realm)(g:File)(x:Lost)(held:List Int)(day:Int)(k:Nat):(ld r g x held day k).length≤k:=by
 unfold ld;rw[gT];have:=rT (oO g x held day) (List.range k);rw[F3] at this;exact this
def zF:File:=⟨⟨0,0,0,0,0,⟨0,0,0⟩,0,0,0,0,0,0,0⟩,[],[],[],[]⟩
def eg (r:Realm)(f:File)(x:Lost)(day:Int):File:=
 {bz f day with acts:=(bz f day).acts++ld r (bz f day) x (dG f x.part x.day).signs day (bz f day).signs.length}
def kK (r:Realm)(aD:Int)(f:File)(x:Lost)(e day:Int):File×Int:=
 if 100000<day∨j5 r aD f x e day≠1 then(zF,7) else if 100<(eg r f x day).acts.length then(zF,6) else(eg r f x day,0)
theorem adx {r:Realm}{aD:Int}{f:File}{x:Lost}{e day:Int}(h:j5 r aD f x e day=1):mi r f x e=0∧x.day≤day∧pP f x=true:=by
 unfold j5 Se at h;split at h
 ·cases h
 rename_i h1;split at h
 ·cases h
 rename_i h2;simp at h1 h2;exact⟨h1.1,h1.2,h2.2⟩
theorem ams {r:Realm}{f:File}{x:Lost}{e:Int}(h:mi r f x e=0):0≤x.by_∧x.by_<r.firms.length:=by
 unfold mi at h;split at h
 ·omega
 split at h
 ·cases h
 split at h
 ·cases h
 rename_i h1;simpa [au] using h1
set_option maxRecDepth 10000 in
theorem Zu (r:Realm)(hr:Right r)(fe:r.firms.length≤100000)(aD:Int)(f:File)(hf:FewS f)(x:Lost)(hx:x.OK)(e:Int)(he:aq T 36 [aZ r,aX f] (.int e))(hl:x.claims.length≤1000)(day:Int):
 aq T 9 [aZ r,.int aD,aX f,fb x,.int day] (.tup [aX (kK r aD f x e day).1,.int (kK r aD f x e day).2]):=by
 refine .of_tree rfl (lA 96 (by kernel_rfl)) arX ?_;generalize hX:kK r aD f x e day=X;unfold kK at hX;simp[SJ];have bM:=Zw r hr aD f hf x hx e he hl day rfl;by_cases h1:100000<day
 ·rw[if_pos (.inl h1)] at hX;subst hX;simp[h1,show ¬day≤100000 by omega,bO];rfl
 simp[h1,show day≤100000 by omega];refine⟨_,bM,?_⟩;by_cases h2:j5 r aD f x e day=1
 case neg=>
  rw[if_pos (.inr h2)] at hX;subst hX;simp[h2,bO];rfl
 rw[if_neg (by simp only[not_or,Lh];exact⟨h1,h2⟩)] at hX;obtain⟨hE,_,_⟩:=adx h2;have jN:=ams hE;have ajm:x.by_.toNat<r.firms.length:=by omega
 simp[h2];have ayX:=hf.signs;refine⟨_,yg f x.part x.day hf.acts hf.signs,_,RX f day (by have:=hf.signs;omega) (by have:=hf.acts;omega) (by have:=hf.alters;omega) (by have:=hf.facts;omega),?_⟩;have hg:eg r f x day={bz f day with acts:=(bz f day).acts++ld r (bz f day) x (dG f x.part x.day).signs day (bz f day).signs.length}:=rfl;have XE:FewS (bz f day):=hf.at_ day;have C5:(bz f day).bill=f.bill:=rfl;rw[hg] at hX;have be:=(MF f x.part x.day).1;generalize bz f day=g at*;generalize (dG f x.part x.day)=ch at*;have g1:=XE.signs;have g2:=XE.acts;refine aP.forRounds g.signs.length (fun k=>[.none,.int k]) (fun k=>[acts (ld r g x ch.signs day k)]) ?_ (fun k hk=>?_) ?_
 ·simp[ld,acts]
 ·have hw:=bn hk (by omega);have hlen:=Sg r g x ch.signs day k;have iS:=ara r g x ch.signs day k;have hc:=BH ch.signs (k:Int) (by omega);have hs:=So g (k:Int) day (by omega);have NM:g.signs.getD k default=g.signs[k]:=by simp[hk]
  unfold oO at iS;rw[NM] at iS;simp[acC,Kj,hk,hw,bO];by_cases a1:g.signs[k].kind=2∧g.signs[k].part=x.part
  case neg=>
   have:(decide (g.signs[k].kind=2)&&decide (g.signs[k].part=x.part))=false:=by simpa using a1
   rw[this] at iS;simp at iS;simp[a1,iS]
  simp[a1] at iS ⊢;refine⟨_,hc,?_⟩;cases a2:hasB ch.signs (k:Int)
  case true=>
   simp[a2] at iS ⊢;rw[iS]
  simp[a2] at iS ⊢;refine⟨_,hs,?_⟩;cases a3:tF g k day
  case true=>
   simp[a3] at iS ⊢;rw[iS]
  simp[a3] at iS ⊢;rw[iS];refine⟨⟨by omega,by omega⟩,by omega,?_⟩;simp[acts,Bt,gH,ajm]
 ·simp[acC,Kj];have hlen:=Sg r g x ch.signs day g.signs.length;generalize ld r g x ch.signs day g.signs.length=ss at*;simp[acts];refine⟨by omega,?_⟩;by_cases h3:100<(g.acts++ss).length
  ·rw[if_pos h3] at hX;subst hX;rw[if_pos (by rw[jG] at h3;omega)];simp[bO];rfl
  ·rw[if_neg h3] at hX;subst hX;rw[if_neg (by rw[jG] at h3;omega)];simp[bO];simp[aX,acts]
end Rm
namespace Rm
open Go Go.Proofs Cx
theorem aq.of_cf {f:Nat}{pc:PC}{cf:Option PC}{ds:List D}{d:D}(n:Nat)(hx:ext f=none)(ht:tab f=some pc)(hcf:cf=some pc)(h:(cf.bind fun c=>c.ev (fun _ _=>none) n (kL ds))=some (.ret d)):aq T f ds d:=by
 subst hcf;refine⟨n+1,fun m hm=>?_⟩;obtain⟨k,rfl⟩:∃k,m=k+1:=⟨m-1,by omega⟩
 have:=PC.ev_mono (Φ:=fun _ _=>none) (Ψ:=T k) (fun f ds d h=>by cases h) (show n≤k by omega) h;show dV tab ext (k+1) f ds=some d;simp only[dV,hx,ht];rw[this]
def dL:Realm:=⟨[⟨#[102,114,97,110,99]⟩],[⟨⟨#[76,121,111,110]⟩,0,0,[],[],[]⟩],[⟨0⟩],[⟨⟨#[66,111,100,109,101,114]⟩,0,0⟩,⟨⟨#[72,111,112,101]⟩,0,0⟩,⟨⟨#[82,105,99,99,105]⟩,0,0⟩],[⟨⟨#[103,101,110,101,118,97]⟩,false,[],[⟨20,⟨0,30,[]⟩⟩]⟩],[],[],[]⟩
def YX:Bill:=⟨0,1,2,500,0,⟨0,0,0⟩,2,0,0,-1,0,0,1⟩
def dW:File:=⟨YX,[⟨0,0,0,-1,-1,0,2,0,0⟩,⟨2,0,2,-1,1,0,20,0,0⟩],[],[],[]⟩
def fK (l:List Objection):Lost:=⟨0,0,2,10,12,l⟩
theorem amb:aq T 20 [] (.tup [aZ dL,aX dW,fb (fK [])]):=aq.of_cf 20 rfl aeS (aC Cg aaj) (by kernel_rfl)
theorem ame:Small dL:=by
 refine⟨by decide,by decide,by decide,by decide,by decide,by decide,by decide,by decide,?_,?_,?_⟩
 ·intro c hc;obtain rfl:c=⟨⟨#[76,121,111,110]⟩,0,0,[],[],[]⟩:=by simpa [dL] using hc
  simp
 ·intro o ho;obtain rfl:o=⟨⟨#[103,101,110,101,118,97]⟩,false,[],[⟨20,⟨0,30,[]⟩⟩]⟩:=by simpa [dL] using ho
  simp
 ·intro x hx;simp[dL] at hx
theorem Zd:Right dL:=by
 refine⟨?_,by decide,?_⟩
 ·intro o ho;obtain rfl:o=⟨⟨#[103,101,110,101,118,97]⟩,false,[],[⟨20,⟨0,30,[]⟩⟩]⟩:=by simpa [dL] using ho
  exact⟨by decide,fun ch h=>by simp at h⟩
 ·intro o ho;obtain rfl:o=⟨⟨#[103,101,110,101,118,97]⟩,false,[],[⟨20,⟨0,30,[]⟩⟩]⟩:=by simpa [dL] using ho
  refine⟨⟨⟨by decide,fun ch h=>by simp at h⟩,by decide,?_⟩,by decide⟩;intro x hx;simp at hx;subst hx;exact⟨by unfold aN;decide,Tm.OK.mk 0 30 [] (by unfold aN;decide) (by unfold aN;decide) (by decide) (fun t h=>by cases h)⟩
theorem Zb:FewS dW:=⟨by decide,by decide,by decide,by decide⟩
theorem amc:dW.OK:=by
 have h0:∀n:Int,(-9223372036854775808≤n∧n≤9223372036854775807)→aN n:=fun n h=>h;unfold File.OK Bill.OK Tenor.OK;simp only[Pr];refine⟨?_,⟨by decide,?_⟩,⟨by decide,?_⟩,⟨by decide,?_⟩,⟨by decide,?_⟩⟩
 ·repeat' apply And.intro
  all_goals first|(exact h0 _ (by decide))|decide
 ·intro y hy;simp only[dW,cD,List.not_mem_nil,or_false] at hy;unfold Sign.OK;rcases hy with rfl|rfl
  all_goals
   repeat' apply And.intro
   all_goals first|(exact h0 _ (by decide))|decide
 ·intro y hy;simp[dW] at hy
 ·intro y hy;simp[dW] at hy
 ·intro y hy;simp[dW] at hy
theorem amd:PaperOK dL dW:=by
 refine⟨by decide,⟨by kernel_rfl,by kernel_rfl,by kernel_rfl,by unfold ny;decide,by decide,?_,?_⟩,by decide,by kernel_rfl,by kernel_rfl,by kernel_rfl,by kernel_rfl⟩
 ·exact⟨⟨by decide,.inl (by kernel_rfl)⟩,by kernel_rfl⟩
 ·intro h;cases h
theorem Pj:aq T 36 [aZ dL,aX dW] (.int 0):=by
 obtain⟨d,h,e,rfl,he⟩:=abB dL ame dW amc;rw[he.2 amd] at h;exact h
theorem Ze (l:List Objection)(h:l.length≤10∧∀y,y∈l→Objection.OK y):(fK l).OK:=by
 have h0:aN 0∧aN 2∧aN 10∧aN 12:=by unfold aN;decide
 refine⟨h0.1,h0.1,h0.2.1,h0.2.2.1,h0.2.2.2,?_,h.2⟩;have:=h.1;rw[Pr];show l.length≤_;omega
theorem Zc (n d:Int)(b:Bool)(hn:0≤n∧n≤1000)(hd:0≤d∧d≤1000):∀y,y∈[(⟨n,d,b⟩:Objection)]→Objection.OK y:=by
 intro y hy;simp only[qx] at hy;subst hy;exact⟨by unfold aN;simp only;omega,by unfold aN;simp only;omega⟩
theorem uT (l:List Objection)(h:l.length≤10∧∀y,y∈l→Objection.OK y)(day:Int):aq T 16 [aZ dL,.int 0,aX dW,fb (fK l),.int day] (.int (j5 dL 0 dW (fK l) 0 day)):=
 Zw dL Zd 0 dW Zb (fK l) (Ze l h) 0 Pj (by have:=h.1;show l.length≤1000;omega) day rfl
theorem YZ (day:Int):aq T 9 [aZ dL,.int 0,aX dW,fb (fK []),.int day] (.tup [aX (kK dL 0 dW (fK []) 0 day).1,.int (kK dL 0 dW (fK []) 0 day).2]):=by
 have h1:dL.firms.length≤100000:=by decide
 have h2:(fK []).claims.length≤1000:=by decide
 have h3:(fK []).OK:=Ze [] ⟨by decide,fun y h=>nomatch h⟩;have h4:∀(r:Realm) (f:File) (x:Lost),Right r→r.firms.length≤100000→FewS f→x.OK→aq T 36 [aZ r,aX f] (.int 0)→x.claims.length≤1000→aq T 9 [aZ r,.int 0,aX f,fb x,.int day] (.tup [aX (kK r 0 f x 0 day).1,.int (kK r 0 f x 0 day).2]):=
  fun r f x a b c d e g=>Zu r a b 0 f c x d 0 e g day
 exact h4 _ _ _ Zd h1 Zb h3 Pj h2
theorem Za (l:List Objection)(h:l.length≤10):aq T 17 [aZ dL,aX dW,fb (fK l)] (.int (mi dL dW (fK l) 0)):=
 Zv dL dW (fK l) 0 Pj (by show l.length≤1000;omega)
def YY:File:=⟨YX,[⟨0,0,0,-1,-1,0,2,0,0⟩,⟨2,0,2,-1,1,0,20,0,0⟩],[],[⟨7,2,-1,0,1,0,43,0,0⟩],[]⟩
set_option maxRecDepth 20000 in
set_option maxHeartbeats 2000000 in
theorem amf:aq T 7 [] (.bool true):=by
 refine .of_tree rfl (lA 1 (by kernel_rfl)) arW ?_;have n0:([]:List Objection).length≤10∧∀y,y∈([]:List Objection)→Objection.OK y:=⟨by decide,fun y h=>by cases h⟩
 have n1:([⟨1,42,true⟩]:List Objection).length≤10∧∀y,y∈([⟨1,42,true⟩]:List Objection)→Objection.OK y:=⟨by decide,Zc _ _ _ (by decide) (by decide)⟩
 have n2:([⟨1,43,true⟩]:List Objection).length≤10∧∀y,y∈([⟨1,43,true⟩]:List Objection)→Objection.OK y:=⟨by decide,Zc _ _ _ (by decide) (by decide)⟩
 have s1:=uT [] n0 41;have s2:=uT [] n0 42;have s3:=uT [] n0 43;have s4:=uT [⟨1,42,true⟩] n1 41;have s5:=uT [⟨1,42,true⟩] n1 42;have s6:=uT [⟨1,42,true⟩] n1 43;have s7:=uT [⟨1,43,true⟩] n2 42;have s8:=uT [⟨1,43,true⟩] n2 43;have c1:=YZ 43;have c2:=YZ 42;have k1:=Za [⟨1,43,true⟩] (by decide);have k2:=Za [⟨1,11,true⟩] (by decide);rw[show j5 dL 0 dW (fK []) 0 41=2 by kernel_rfl] at s1;rw[show j5 dL 0 dW (fK []) 0 42=2 by kernel_rfl] at s2;rw[show j5 dL 0 dW (fK []) 0 43=1 by kernel_rfl] at s3;rw[show j5 dL 0 dW (fK [⟨1,42,true⟩]) 0 41=2 by kernel_rfl] at s4;rw[show j5 dL 0 dW (fK [⟨1,42,true⟩]) 0 42=0 by kernel_rfl] at s5;rw[show j5 dL 0 dW (fK [⟨1,42,true⟩]) 0 43=0 by kernel_rfl] at s6;rw[show j5 dL 0 dW (fK [⟨1,43,true⟩]) 0 42=2 by kernel_rfl] at s7;rw[show j5 dL 0 dW (fK [⟨1,43,true⟩]) 0 43=1 by kernel_rfl] at s8;rw[show kK dL 0 dW (fK []) 0 43=(YY,0) by kernel_rfl] at c1;rw[show kK dL 0 dW (fK []) 0 42=(zF,7) by kernel_rfl] at c2;rw[show mi dL dW (fK [⟨1,43,true⟩]) 0=0 by kernel_rfl] at k1;rw[show mi dL dW (fK [⟨1,11,true⟩]) 0=13 by kernel_rfl] at k2;simp[SI];refine⟨_,amb,?_⟩;simp;refine⟨_,s1,?_⟩;simp;refine⟨_,s2,?_⟩;simp;refine⟨_,s3,_,c1,_,c2,_,s4,?_⟩;simp;refine⟨_,s5,?_⟩;simp;refine⟨_,s6,?_⟩;simp;refine⟨_,s7,?_⟩;simp;refine⟨_,s8,?_⟩;simp;refine⟨_,k1,?_⟩;simp[bO,YY,acts,signs];refine⟨_,k2,?_⟩;simp
def CS (r:Realm)(f:File)(x:Lost):Bool:=HZ r f&&decide (x.claims.length≤30)
theorem al6 (r:Realm)(f:File)(x:Lost)(hr:r.OK):aq T 8 [aZ r,aX f,fb x] (.bool (CS r f x)):=by
 refine .of_tree rfl (lA 98 (by kernel_rfl)) arV ?_;simp[SH];refine⟨_,ap4 r f hr,?_⟩;unfold CS HZ;cases h:sD r f
 ·simp
 simp;have hs:Small r:=by
  unfold sD at h;simp only[ao] at h;exact M4 hr h.1.1
 refine⟨_,acn r hs,?_⟩;by_cases h1:jd r=0<;>simp[h1];omega
end Rm
namespace Rm
open Go Go.Proofs Cx
end Rm
namespace Rm
open Go Go.Proofs Cx
theorem Qo {α:Type}(key:α→Int)(l:List α)(h:∀i (h1:i+1<l.length),key (l[i]'(by omega))≤key l[i+1]):l.Pairwise fun a b=>key a≤key b:=by
 rw[F5];intro i j hi hj cU;obtain⟨d,rfl⟩:∃d,j=i+1+d:=⟨j-i-1,by omega⟩
 clear cU
 induction d with
 |zero=>exact h i hj
 |succ d ih=>exact Int.le_trans (ih (by omega)) (h (i+1+d) hj)
structure Sorted (f:File):Prop where
 signs:f.signs.Pairwise fun a b=>a.day≤b.day
 acts:f.acts.Pairwise fun a b=>a.day≤b.day
 aAG:∀s,s∈f.signs→0≤s.day
 awY:∀a,a∈f.acts→0≤a.day
structure SignOK (r:Realm) (f:File) (i:Nat) (s:Sign):Prop where
 part:0≤s.part∧s.part≤f.bill.parts-1
 who:0≤s.who∧s.who<r.firms.length
 city:0≤s.city∧s.city<r.cities.length
 day:gq f i≤s.day∧s.day≤100000
 fits:lq r f i=true
 once:mJ f i s=false
theorem PaperOK.sign {r:Realm}{f:File}(h:PaperOK r f)(i:Nat)(hi:i<f.signs.length):SignOK r f i f.signs[i]:=by
 have h1:=pG h.signs i hi;have hs:f.signs.getD i default=f.signs[i]:=by simp[hi]
 unfold signE at h1;simp only[hs] at h1;split at h1
 ·cases h1
 rename_i a1;split at h1
 ·cases h1
 rename_i a2;split at h1
 ·cases h1
 rename_i a3;split at h1
 ·cases h1
 rename_i a4;split at h1
 ·cases h1
 rename_i a5;simp[wi,au] at a1 a2 a3;exact⟨⟨by omega,by omega⟩,⟨by omega,by omega⟩,⟨by omega,by omega⟩,⟨by omega,by omega⟩,by simpa using a4,by simpa using a5⟩
structure BD (r:Realm) (f:File) (i:Nat) (a:Act):Prop where
 part:0≤a.part∧a.part≤f.bill.parts-1
 city:0≤a.city∧a.city<r.cities.length
 kind:0≤a.kind∧a.kind≤9
 fits:actB r f a=true
 day:leastDay f i a≤a.day∧a.day≤100000
theorem PaperOK.act {r:Realm}{f:File}(h:PaperOK r f)(i:Nat)(hi:i<f.acts.length):BD r f i f.acts[i]:=by
 have h1:=pG h.acts i hi;have hs:f.acts.getD i default=f.acts[i]:=by simp[hi]
 unfold gl at h1;simp only[hs] at h1;split at h1
 ·cases h1
 rename_i a1;split at h1
 ·cases h1
 rename_i a2;split at h1
 ·cases h1
 rename_i a3;split at h1
 ·cases h1
 rename_i a4;simp[wi,au] at a1 a2 a4;exact⟨⟨by omega,by omega⟩,⟨by omega,by omega⟩,⟨by omega,by omega⟩,by simpa using a3,by omega⟩
theorem YU (f:File)(i:Nat)(a:Act):f.bill.day≤leastDay f i a∧(i≠0→(f.acts.getD (i-1) default).day≤leastDay f i a):=by
 unfold leastDay;refine⟨?_,fun h=>?_⟩
 ·simp only;split<;>split<;>omega
 ·simp only[if_neg h];omega
theorem PaperOK.day {r:Realm}{f:File}(h:PaperOK r f):0≤f.bill.day∧f.bill.day≤100000:=by
 have:=h.bill.range;unfold ny at this;omega
theorem WM {r:Realm}{f:File}(h:PaperOK r f):∀i,i<f.signs.length→0≤gq f i
 |0,_=>by simp[gq];exact h.day.1
 |i+1,hi=>by
  have h1:=(h.sign i (by omega)).day.1;have h2:=WM h i (by omega);have e:gq f (i+1)=f.signs[i].day:=by simp[gq,show i<f.signs.length by omega]
  omega
theorem PaperOK.sorted {r:Realm}{f:File}(h:PaperOK r f):Sorted f:=by
 refine⟨Qo (·.day) f.signs fun i hi=>?_,Qo (·.day) f.acts fun i hi=>?_,fun s hs=>?_,fun a ha=>?_⟩
 ·have h1:=(h.sign (i+1) hi).day.1;have e:gq f (i+1)=f.signs[i].day:=by simp[gq,show i<f.signs.length by omega]
  rw[e] at h1;exact h1
 ·have h1:=(h.act (i+1) hi).day.1;have h2:=(YU f (i+1) f.acts[i+1]).2 (by omega);have e:f.acts.getD (i+1-1) default=f.acts[i]:=by simp[show i<f.acts.length by omega]
  rw[e] at h2;exact Int.le_trans h2 h1
 ·obtain⟨i,hi,rfl⟩:=j7 hs;exact Int.le_trans (WM h i hi) (h.sign i hi).day.1
 ·obtain⟨i,hi,rfl⟩:=j7 ha;have h1:=(h.act i hi).day.1;have h2:=(YU f i f.acts[i]).1;have:=h.day;omega
end Rm
namespace Rm
open Go Go.Proofs Cx
structure LRun (r:Realm) (f:File) (e:Int):Prop where
 good:Good r f
 check:aq T 36 [aZ r,aX f] (.int e)
 ok:e=0→PaperOK r f
theorem anK {r:Realm}(hr:r.OK){f:File}(l6:f.OK){x:Lost}(h:CS r f x=true):∃e,LRun r f e∧x.claims.length≤30:=by
 unfold CS at h;simp only[ao,decide_eq_true_eq] at h;have G:=aiH hr h.1;obtain⟨d,h1,e,rfl,he⟩:=abB r G.rightD.small f l6;exact⟨e,⟨G,h1,he.1⟩,h.2⟩
theorem ami {r:Realm}{f:File}{x:Lost}{e:Int}:mi r f x e=0↔e=0∧au x.part f.bill.parts=true∧au x.by_ r.firms.length=true∧x.claims.length≤20∧FG r x=false∧px f x=true:=by
 unfold mi;by_cases h0:e=0<;>simp[h0];cases au x.part f.bill.parts<;>simp;cases au x.by_ r.firms.length<;>simp;by_cases h1:20<x.claims.length
 ·simp[h1]
  try (intro h;omega)
 ·simp[h1,show x.claims.length≤20 by omega]
  try (cases FG r x<;>simp)
  try (cases px f x<;>simp)
end Rm
namespace Rm
open Go Go.Proofs Cx
theorem A7 (n m:Int):aq T 57 [.int n,.int m] (.bool (au n m)):=by
 refine .of_tree rfl (lA 121 (by kernel_rfl)) asG ?_;simp[Tv];by_cases h:0≤n<;>simp[au,h]
theorem apy (n:Int):aq T 59 [.int n] (.bool (zy n)):=by
 refine .of_tree rfl (lA 123 (by kernel_rfl)) asn ?_;simp[Tb];by_cases h:0≤n<;>simp[zy,h]
end Rm
namespace Rm
open Go Go.Proofs Cx
def yc (fr to:Int)(u:Usance):Bool:=decide (u.fr=fr)&&decide (u.to=to)
def FL (l:List Usance)(fr to:Int):Int×Int:=match l.find? (yc fr to) with|some u=>(u.days,0)|none=>(0,4)
theorem apE (r:Realm)(fr to:Int)(hl:r.usances.length≤100000):aq T 61 [aZ r,.int fr,.int to] (.tup [.int (FL r.usances fr to).1,.int (FL r.usances fr to).2]):=by
 refine .of_tree rfl (lA 125 (by kernel_rfl)) asw ?_;simp[Tk];unfold FL;refine aP.scan r.usances.length (fun k=>yc fr to (r.usances.getD k default)=false) (fun k=>[.int 0,.int 0,.int k]) (fun _=>[]) ?_ (fun k hk hj aB=>?_) (fun k hk hj aB=>?_) (fun hj=>?_)
 ·simp
 ·have hw:=bn hk (by omega);have hn:¬(r.usances[k].fr=fr∧r.usances[k].to=to):=by simpa [yc,hk] using aB
  simp[Rh,EN,hk,hw,hn]
 ·have fe:=CI hk (by simpa [hk] using aB) (fun j ct=>by have:=hj j ct;simpa [show j<r.usances.length by omega] using this);have hc:r.usances[k].fr=fr∧r.usances[k].to=to:=by simpa [yc,hk] using aB
  rw[fe];simp[Rh,EN,hk,hc]
 ·have fe:=HR (l:=r.usances) (p:=yc fr to) (fun j ct=>by have:=hj j ct;simpa [ct] using this);rw[fe];simp[Rh,EN]
end Rm
namespace Rm
open Go Go.Proofs Cx
instance (b:Bill):Decidable (ny b):=by unfold ny;infer_instance
instance (b:Bill):Decidable (uk b):=by unfold uk;infer_instance
def qD (r:Realm)(b:Bill):Int:=
 if jd r≠0 then jd r else if tG r b=false∨rL r b=false then 1 else if ¬ny b then 3 else if ¬(1≤b.parts∧b.parts≤4) then 15 else if ¬uk b then 2 else if b.tenor.kind=4 then(FL r.usances b.city b.pay).2 else 0
theorem acq (n m:Int):aq T 58 [.int n,.int m] (.bool (ns n m)):=by
 refine .of_tree rfl (lA 122 (by kernel_rfl)) asH ?_;unfold ns;by_cases h:n=-1
 ·simp[K8,h]
 ·simp[K8,h];exact A7 n m
theorem apP (b:Bill):aq T 60 [fa b] (.bool (vD b)):=by
 refine .of_tree rfl (lA 124 (by kernel_rfl)) asF ?_;unfold vD;simp[Tu,bO];by_cases h0:b.tenor.kind=0
 ·by_cases h1:b.tenor.n=0<;>simp[h0,h1]
 by_cases h4:b.tenor.kind=4
 ·by_cases h1:b.tenor.n=0<;>simp[h4,h1]
 simp[h0,h4];by_cases k1:b.tenor.kind=1
 ·by_cases h1:1≤b.tenor.n<;>by_cases h2:b.tenor.n≤400<;>by_cases h3:b.tenor.unit=0<;>simp[k1,h1,h2,h3]
 by_cases k2:b.tenor.kind=2
 ·by_cases h1:1≤b.tenor.n<;>by_cases h2:b.tenor.n≤400<;>by_cases h3:b.tenor.unit=0<;>simp[k2,h1,h2,h3]
 simp[k1,k2];by_cases k3:b.tenor.kind=3
 ·by_cases h1:b.day≤b.tenor.n<;>by_cases h2:b.tenor.n≤100000<;>simp[k3,h1,h2]
 simp[k3]
theorem apO (r:Realm)(hs:Small r)(b:Bill):aq T 24 [aZ r,fa b] (.int (qD r b)):=by
 refine .of_tree rfl (lA 120 (by kernel_rfl)) asE ?_;generalize hX:qD r b=X;unfold qD at hX;simp[Tt];refine⟨_,acn r hs,?_⟩;by_cases h0:jd r=0
 case neg=>rw[if_pos h0] at hX;subst hX;simp[h0]
 rw[if_neg (by simpa using h0)] at hX;simp[h0];unfold tG rL at hX;refine⟨_,A7 _ _,?_⟩;cases h1:au b.drawer r.firms.length
 ·simpa [h1] using hX
 simp;refine⟨_,A7 _ _,?_⟩;cases h2:au b.drawee r.firms.length
 ·simpa [h2] using hX
 simp;refine⟨_,acq _ _,?_⟩;cases h3:ns b.payee r.firms.length
 ·simpa [h3] using hX
 simp;refine⟨_,acq _ _,?_⟩;cases h4:ns b.need r.firms.length
 ·simpa [h4] using hX
 simp;refine⟨_,A7 _ _,?_⟩;cases h5:au b.currency r.currencies.length
 ·simpa [h5] using hX
 simp;refine⟨_,A7 _ _,?_⟩;cases h6:au b.city r.cities.length
 ·simpa [h6] using hX
 simp;refine⟨_,A7 _ _,?_⟩;cases h7:au b.pay r.cities.length
 ·simpa [h7] using hX
 simp;rw[if_neg (by simp[h1,h2,h3,h4,h5,h6,h7])] at hX;have hv:=apy b.day;by_cases h8:ny b
 case neg=>
  rw[if_pos h8] at hX;subst hX;by_cases g1:1≤b.sum∧b.sum≤1099511627776
  case neg=>simp[g1,show b.sum<1∨1099511627776<b.sum by omega]
  simp[g1,show ¬(b.sum<1∨1099511627776<b.sum) by omega];refine⟨_,hv,?_⟩;unfold ny at h8;by_cases g2:zy b.day=true
  ·simp[g2];simp[zy] at g2;omega
  ·simp[g2]
 rw[if_neg (by simpa using h8)] at hX;have CV:=h8;unfold ny at CV;simp[show 1≤b.sum∧b.sum≤1099511627776 by omega,show ¬(b.sum<1∨1099511627776<b.sum) by omega];refine⟨_,hv,?_⟩;have g2:zy b.day=true:=by simp[zy];omega
 simp[g2,show ¬b.rate<0 by omega,show ¬1000<b.rate by omega];by_cases h9:1≤b.parts∧b.parts≤4
 case neg=>
  rw[if_pos h9] at hX;subst hX;rw[if_pos (by omega)]
 rw[if_neg (by simpa using h9)] at hX;rw[if_neg (by omega)];have ht:=apP b;by_cases jM:uk b
 case neg=>
  rw[if_pos jM] at hX;subst hX;unfold uk at jM;by_cases g3:0≤b.flags∧b.flags≤7
  case neg=>simp[g3,show b.flags<0∨7<b.flags by omega]
  have Nc:¬(b.flags<0∨7<b.flags):=by omega
  by_cases g4:¬b.payee=-1∨cP .and .i64 b.flags 4=0
  case neg=>
   simp only[not_or,Lh] at g4;simp[g3,g4]
  have g4':¬(b.payee=-1∧¬cP .and .i64 b.flags 4=0):=fun h=>g4.elim (fun k=>k h.1) (fun k=>h.2 k);simp[g3,Nc,g4,g4'];refine⟨_,ht,?_⟩;have g6:vD b=false:=by
   cases h:vD b
   ·rfl
   ·refine absurd ⟨⟨g3,?_⟩,h⟩ jM;exact g4.symm
  simp[g6]
 rw[if_neg (by simpa using jM)] at hX;obtain⟨⟨g3,g4⟩,g5⟩:=jM;have Nc:¬(b.flags<0∨7<b.flags):=by omega
 have g6:¬(b.payee=-1∧¬cP .and .i64 b.flags 4=0):=fun h=>g4.elim (fun k=>h.2 k) (fun k=>k h.1);simp[g3,Nc,g4.symm,g6];refine⟨_,ht,?_⟩;simp[g5];by_cases nU:b.tenor.kind=4
 ·simp[nU] at hX ⊢;refine⟨_,apE r b.city b.pay (by have:=hs.us;omega),?_⟩;simp[hX]
 ·simp[nU] at hX ⊢;exact hX
end Rm
namespace Rm
open Go Go.Proofs Cx
theorem aoX {n:Int}(h:aN n):cP .or .i64 n 1=1↔n=0∨n=1:=by
 constructor
 ·intro e;simp only[cP] at e;generalize hm:(BitVec.ofInt IntKind.i64.bits n|||BitVec.ofInt IntKind.i64.bits 1).toNat=m at e;have ah:m<18446744073709551616:=by rw[←hm];exact BitVec.isLt _
  have h1:m=1:=by
   simp only[IntKind.wrap,IntKind.signed,IntKind.bits] at e;simp at e;split at e<;>omega
  rw[h1,BitVec.toNat_or] at hm;have h2:(BitVec.ofInt IntKind.i64.bits n).toNat≤1:=by rw[←hm];exact Nat.left_le_or
  have h3:((BitVec.ofInt IntKind.i64.bits n).toNat:Int)=n%18446744073709551616:=by
   rw[BitVec.toNat_ofInt];show((n%((2^IntKind.i64.bits:Nat):Int)).toNat:Int)=_;have:((2^IntKind.i64.bits:Nat):Int)=18446744073709551616:=by decide
   rw[this];omega
  unfold aN at h;omega
 ·rintro(rfl|rfl)<;>decide
theorem acu (f:File)(i part:Int)(h:i=0∨(0≤i∧i<f.signs.length)):aq T 82 [aX f,.int i,.int part] (.bool (kC f i part)):=by
 refine .of_tree rfl (lA 129 (by kernel_rfl)) asL ?_;unfold kC;by_cases h0:i=0
 ·simp[K9,h0]
 ·obtain⟨h1,h2⟩:=h.resolve_left h0;have h3:i.toNat<f.signs.length:=by omega
  simp[K9,h0,h1,h2,h3,bD]
def tW (f:File)(i:Int):Bool:=wi (bD f i).for_ 0 (i-1)&&kC f (bD f i).for_ (bD f i).part
theorem apY (f:File)(i:Int)(h:0≤i∧i<f.signs.length)(hl:f.signs.length≤100000):aq T 81 [aX f,.int i] (.bool (tW f i)):=by
 refine .of_tree rfl (lA 128 (by kernel_rfl)) asN ?_;have h1:i.toNat<f.signs.length:=by omega
 have hw:IntKind.i64.wrap (i-1)=i-1:=bL (by omega);have hs:bD f i=f.signs[i.toNat]:=by simp[bD,h1]
 unfold tW;rw[hs];simp[TB,h,h1,hw];refine⟨_,bI _ _ _,?_⟩;cases hb:wi f.signs[i.toNat].for_ 0 (i-1)
 ·simp
 ·simp[wi] at hb;simp;exact acu f _ _ (.inr (by omega))
theorem ae8 (f:File)(i:Int)(ks:List Int):sm f i ks=(tW f i&&hasB ks (bD f (bD f i).for_).kind):=by
 unfold sm tW;rw[FU]
theorem ae6 {f:File}{i:Int}(h:0≤i∧i<f.signs.length)(hb:tW f i=true):0≤(bD f i).for_∧(bD f i).for_<i:=by
 unfold tW at hb;simp[wi] at hb;omega
theorem ahp {r:Realm}{f:File}{i:Nat}(hi:i<f.signs.length)(h:lq r f i=true):0≤f.signs[i].kind∧f.signs[i].kind≤4:=by
 have hs:f.signs.getD i default=f.signs[i]:=by simp[hi]
 unfold lq at h;rw[hs] at h;unfold CK HU at h
 repeat' split at h
 all_goals first|(cases h;done)|omega
set_option maxRecDepth 4000 in
theorem apW (r:Realm)(hr:Small r)(f:File)(i:Nat)(h:i<f.signs.length)(hl:f.signs.length≤100000)(DE:∀j (hj:j<i),0≤(f.signs[j]'(by omega)).kind∧(f.signs[j]'(by omega)).kind≤4)
 (uw:i=0→f.signs[i].day=f.bill.day) (l6:aN f.signs[i].flags):aq T 62 [aZ r,aX f,.int i] (.bool (lq r f i)):=by
 refine .of_tree rfl (lA 127 (by kernel_rfl)) asK ?_;have fe:=hr.firms;have hw:IntKind.i64.wrap ((r.firms.length:Int)-1)=(r.firms.length:Int)-1:=bL (by omega);have hs:f.signs.getD i default=f.signs[i]:=by simp[h]
 have DN:bD f (i:Int)=f.signs[i]:=by simp[bD,h]
 have nW:=apY f i ⟨by omega,by omega⟩ hl;have Ih:=ae6 (f:=f) (i:=i) ⟨by omega,by omega⟩;have qN:=ae8 f i;generalize hX:lq r f i=X;unfold lq at hX;rw[hs] at hX;rw[DN] at qN Ih
 have NH:∀n:Int,0≤n→n<i→∃hn:n.toNat<f.signs.length,(bD f n)=f.signs[n.toNat]∧0≤f.signs[n.toNat].kind∧f.signs[n.toNat].kind≤4:=fun n h1 h2=>by
  have hn:n.toNat<f.signs.length:=by omega
  exact⟨hn,by simp[bD,hn],DE n.toNat (by omega)⟩
 simp[Tz,h,hw,bO];refine⟨_,bI _ _ _,?_⟩;generalize f.signs[i]=s at*;unfold CK HU at hX;by_cases k0:s.kind=0
 ·simp[k0] at hX ⊢;have ho:=aoX l6;by_cases a1:i=0
  case neg=>simp[a1] at hX ⊢;exact hX
  by_cases a2:s.to=-1
  case neg=>simp[a1,a2] at hX ⊢;exact hX
  by_cases a3:s.for_=-1
  case neg=>simp[a1,a2,a3] at hX ⊢;exact hX
  simp[a1,a2,a3,uw a1] at hX ⊢;rw[←hX];by_cases b1:s.who=f.bill.drawer<;>by_cases b2:s.sum=0<;>by_cases b3:s.part=0<;>simp[b1,b2,b3];by_cases b4:s.flags=0∨s.flags=1
  ·simp[b4,ho.2 b4]
  ·simp[b4];intro e;exact absurd (ho.1 e) b4
 have fX:¬(s.kind=0):=k0;by_cases k1:s.kind=1
 ·simp[k1] at hX ⊢;by_cases a1:i=0
  ·simp[a1] at hX ⊢;exact hX
  have yo:0<i:=by omega
  by_cases a2:s.to=-1
  case neg=>simp[a1,yo,a2] at hX ⊢;exact hX
  by_cases a3:s.for_=-1
  case neg=>simp[a1,yo,a2,a3] at hX ⊢;exact hX
  simp[a1,yo,a2,a3] at hX ⊢;rw[←hX];by_cases b1:s.who=f.bill.drawee<;>cases wi s.sum 1 1099511627776<;>simp[b1]
 by_cases k2:s.kind=2
 ·simp[k2] at hX ⊢;by_cases a1:i=0
  ·simp[a1] at hX ⊢;exact hX
  have yo:0<i:=by omega
  by_cases a3:s.for_=-1
  case neg=>simp[a1,yo,a3] at hX ⊢;exact hX
  simp[a1,yo,a3] at hX ⊢;refine⟨_,bI _ _ _,?_⟩;cases b1:wi s.to (-1) ((r.firms.length:Int)-1)
  ·simpa [b1] using hX
  by_cases b2:s.sum=0
  case neg=>simpa [b1,b2] using hX
  simp[b1,b2] at hX ⊢;refine⟨_,bI _ _ _,?_⟩;cases b3:wi s.flags 0 7
  ·simpa [b3] using hX
  simp[b3] at hX ⊢;simp[wi] at b3;generalize s.flags=fl at*;clear l6 hs DN qN Ih uw NH nW;obtain rfl|rfl|rfl|rfl|rfl|rfl|rfl|rfl:fl=0∨fl=1∨fl=2∨fl=3∨fl=4∨fl=5∨fl=6∨fl=7:=by omega
  all_goals
   revert hX
   cases X<;>decide
 by_cases k3:s.kind=3
 ·simp[k3] at hX ⊢;by_cases a1:i=0
  ·simp[a1] at hX ⊢;exact hX
  by_cases a2:s.to=-1
  case neg=>simp[a1,a2] at hX ⊢;exact hX
  simp[a1,a2] at hX ⊢;by_cases b1:s.sum=0
  case neg=>simpa [b1] using hX
  by_cases b2:s.flags=0
  case neg=>simpa [b1,b2] using hX
  simp[b1,b2] at hX ⊢;refine⟨_,nW,?_⟩;rw[qN] at hX;cases b3:tW f i
  ·simpa [b3] using hX
  obtain⟨c1,c2⟩:=Ih b3;obtain⟨c3,c4,c5,c6⟩:=NH _ c1 c2;rw[c4] at hX;simp[b3] at hX ⊢;simp[c1,c3,show s.for_<(f.signs.length:Int) by omega];generalize f.signs[s.for_.toNat].kind=kk at*;obtain rfl|rfl|rfl|rfl|rfl:kk=0∨kk=1∨kk=2∨kk=3∨kk=4:=by omega
  all_goals
   revert hX
   cases X<;>decide
 by_cases k4:s.kind=4
 ·simp[k4] at hX ⊢;by_cases a1:i=0
  ·simp[a1] at hX ⊢;exact hX
  by_cases a2:s.to=-1
  case neg=>simp[a1,a2] at hX ⊢;exact hX
  simp[a1,a2] at hX ⊢;cases b1:wi s.sum 1 1099511627776
  ·simpa [b1] using hX
  by_cases b2:s.flags=0
  case neg=>simpa [b1,b2] using hX
  by_cases b4:s.who=f.bill.drawee
  ·simpa [b1,b2,b4] using hX
  simp[b1,b2,b4] at hX ⊢;refine⟨_,nW,?_⟩;rw[qN] at hX;cases b3:tW f i
  ·simpa [b3] using hX
  obtain⟨c1,c2⟩:=Ih b3;obtain⟨c3,c4,c5,c6⟩:=NH _ c1 c2;rw[c4] at hX;simp[b3] at hX ⊢;simp[c1,c3,show s.for_<(f.signs.length:Int) by omega];generalize f.signs[s.for_.toNat].kind=kk at*;obtain rfl|rfl|rfl|rfl|rfl:kk=0∨kk=1∨kk=2∨kk=3∨kk=4:=by omega
  all_goals
   revert hX
   cases X<;>simp[hasB]
 simp[k0,k1,k2,k3,k4] at hX ⊢;exact hX
end Rm
namespace Rm
open Go Go.Proofs Cx
theorem aq7 {r:Realm}{f:File}{i:Nat}(hi:i<f.signs.length)(h:signE r f i=0):0≤f.signs[i].kind∧f.signs[i].kind≤4:=by
 unfold signE at h;simp only at h;split at h
 ·cases h
 split at h
 ·cases h
 split at h
 ·cases h
 split at h
 ·cases h
 rename_i a4;exact ahp hi (by simpa using a4)
theorem ap1 (f:File)(i:Nat)(h:i<f.signs.length)(hl:f.signs.length≤100000)(ρ:Env)(h2:ρ.r 2=.int i)(h6:ρ.r 6=.int 0)(h8:ρ.r 8=.int 0)(h7:ρ.o 7=eE f.signs[i])(h4:ρ.o 4=aX f){Q:Out→Prop}
 (hn:mJ f i f.signs[i]=false→∀ρ',Q (.next ρ')) (hr:mJ f i f.signs[i]=true→Q (.ret (.int 5))):aP T (Jd B3) ρ Q:=by
 by_cases k1:f.signs[i].kind=1
 ·refine aP.scan i (fun k=>¬((f.signs.getD k default).kind=1∧(f.signs.getD k default).part=f.signs[i].part)) (fun k=>[.int 0,.int k]) (fun _=>[]) ?_ (fun k hk hj ho=>?_) (fun k hk hj ho=>?_) (fun hj=>?_)
  ·simp[h6,h8]
  ·have hw:=bn hk (by omega);have aW:k<f.signs.length:=by omega
   simp[aW] at ho;simp[Kv,Bh,h2,h4,h7,hk,aW,k1,hw];intro a b;exact absurd b (ho a)
  ·have aW:k<f.signs.length:=by omega
   simp[aW] at ho;simp[Kv,Bh,h2,h4,h7,hk,aW,k1,ho];refine hr ?_;unfold mJ;rw[mQ];exact⟨f.signs[k],Lt.2 ⟨k,by omega,rfl⟩,by simp[k1,ho]⟩
  ·simp[Kv,Bh,h2,h4,h7,k1];refine hn ?_ _;unfold mJ;rw[Vj];intro x hx;obtain⟨k,hk,rfl⟩:=Lt.1 hx;have:=hj k (by omega);simp[show k<f.signs.length by omega] at this;simp[k1];exact this
 ·refine aP.scan 0 (fun k=>True) (fun k=>[.int 0,.int k]) (fun _=>[]) ?_ (fun k hk hj ho=>absurd hk (by omega)) (fun k hk hj ho=>absurd hk (by omega)) (fun hj=>?_)
  ·simp[h6,h8]
  ·simp[Kv,Bh,h2,h4,h7,k1];refine hn ?_ _;unfold mJ;rw[Vj];intro x hx;simp[k1]
set_option maxRecDepth 4000 in
theorem ap0 (r:Realm)(hr:Small r)(f:File)(hp:1≤f.bill.parts∧f.bill.parts≤4)(i:Nat)(h:i<f.signs.length)(hl:f.signs.length≤100000)(DE:∀j,j<i→signE r f j=0)(l6:aN f.signs[i].flags):
 aq T 25 [aZ r,aX f,.int i] (.int (signE r f i)):=by
 refine .of_tree rfl (lA 126 (by kernel_rfl)) asP ?_;have fe:=hr.firms;have NA:=hr.cities;have fm:IntKind.i64.wrap ((r.firms.length:Int)-1)=(r.firms.length:Int)-1:=bL (by omega);have db:IntKind.i64.wrap ((r.cities.length:Int)-1)=(r.cities.length:Int)-1:=bL (by omega);have xc:IntKind.i64.wrap (f.bill.parts-1)=f.bill.parts-1:=bL (by omega);have hs:f.signs.getD i default=f.signs[i]:=by simp[h]
 have wM:=fun hd=>apW r hr f i h hl (fun j hj=>aq7 (by omega) (DE j hj)) hd l6;generalize hX:signE r f i=X;unfold signE at hX;simp only[hs] at hX;simp[TD,h,fm,db,xc,bO];refine⟨_,bI _ _ _,?_⟩;cases a1:wi f.signs[i].part 0 (f.bill.parts-1)
 ·simpa [a1] using hX
 simp[a1] at hX ⊢;refine⟨_,bI _ _ _,?_⟩;rw[iT] at hX;cases a2:wi f.signs[i].who 0 ((r.firms.length:Int)-1)
 ·simpa [a2] using hX
 simp[a2] at hX ⊢;refine⟨_,bI _ _ _,?_⟩;rw[iT] at hX;cases a3:wi f.signs[i].city 0 ((r.cities.length:Int)-1)
 ·simpa [a3] using hX
 simp[a3] at hX ⊢
 have fin:∀ρ:Env,ρ.r 2=.int i→ρ.r 6=.int 0→ρ.r 8=.int 0→ρ.o 7=eE f.signs[i]→ρ.o 4=aX f→(if mJ f i f.signs[i]=true then 5 else 0)=X→aP T (Jd B3) ρ (gA (fun _=>0=X) fun x=>x=Out.ret (D.int X)):=by
  intro ρ h2 h6 h8 h7 h4 hx;refine ap1 f i h hl ρ h2 h6 h8 h7 h4 (fun ht ρ'=>?_) (fun ht=>?_)
  ·rw[if_neg (by simp[ht])] at hx;exact hx
  ·rw[if_pos ht] at hx;show Out.ret (D.int 5)=_;rw[hx]
 by_cases i0:i=0
 ·have sK:gq f i=f.bill.day:=by simp[gq,i0]
  rw[sK] at hX;by_cases d1:f.signs[i].day=f.bill.day∧f.signs[i].day≤100000
  case neg=>
   have:13=X:=by
        rw[if_pos] at hX
        ·exact hX
        ·by_cases e:f.signs[i].day=f.bill.day
         ·left;simp[wi];omega
         ·exact .inr ⟨i0,e⟩
   rw[if_pos (by by_cases e:f.signs[i].day=f.bill.day
                 ·right;omega
                 ·exact .inl ⟨i0,e⟩)]
   exact this
  rw[if_neg (by rintro(h|h)
                ·simp[wi] at h;omega
                ·exact h.2 d1.1)] at hX
  rw[if_neg (by rintro(h|h)
                ·exact h.2 d1.1
                ·omega),if_neg (by omega)]
  refine⟨_,wM (fun _=>d1.1),?_⟩;cases a4:lq r f i
  ·simpa [a4] using hX
  simp[a4] at hX;simp only[MO,if_true];exact fin _ (by simp) (by simp) (by simp) (by simp[h,bO]) (by simp) hX
 ·have sK:gq f i=f.signs[i-1].day:=by simp[gq,i0,show i-1<f.signs.length by omega]
  have bl:IntKind.i64.wrap ((i:Int)-1)=(i:Int)-1:=bL (by omega);have bE:((i:Int)-1).toNat=i-1:=by omega
  have eG:i-1<f.signs.length:=by omega
  rw[sK] at hX;simp[i0] at hX;by_cases d1:100000<f.signs[i].day
  ·rw[if_pos (by simp[wi];omega)] at hX;rw[if_pos (.inr d1)];exact hX
  rw[if_neg (by rintro(h|h)
                ·exact i0 h.1
                ·exact d1 h),if_pos (by omega)]
  simp[bl,bE,eG];refine⟨by omega,?_⟩;by_cases d2:f.signs[i].day<f.signs[i-1].day
  ·rw[if_pos (by simp[wi];omega)] at hX;rw[if_pos d2];exact hX
  rw[if_neg (by simp[wi];omega)] at hX;rw[if_neg d2];refine⟨_,wM (fun e=>absurd e i0),?_⟩;cases a4:lq r f i
  ·simpa [a4] using hX
  simp[a4] at hX;simp only[MO,if_true];exact fin _ (by simp) (by simp) (by simp) (by simp[h,bO]) (by simp) hX
end Rm
namespace Rm
open Go Go.Proofs Cx
theorem O6 (c:Prop)[Decidable c](x:Bool):(if c then D.bool x else D.bool false)=D.bool (decide c&&x):=by split<;>simp[*]
theorem O7 (c:Prop)[Decidable c](x:Bool):(if c then D.bool true else D.bool x)=D.bool (decide c||x):=by split<;>simp[*]
set_option maxRecDepth 4000 in
theorem apU (r:Realm)(hr:Small r)(f:File)(a:Act)(hl:f.signs.length≤100000)(hk:0≤a.kind∧a.kind≤9):aq T 63 [aZ r,aX f,gH a] (.bool (actB r f a)):=by
 refine .of_tree rfl (lA 131 (by kernel_rfl)) asI ?_;have fe:=hr.firms;have fm:IntKind.i64.wrap ((r.firms.length:Int)-1)=(r.firms.length:Int)-1:=bL (by omega);have db:IntKind.i64.wrap ((f.signs.length:Int)-1)=(f.signs.length:Int)-1:=bL (by omega);generalize hX:actB r f a=X;unfold actB at hX;simp[Tw,fm,db];refine⟨_,bI _ _ _,?_⟩;rw[←iT];cases sU:au a.who r.firms.length
 ·simpa [sU] using hX
 simp[sU] at hX ⊢;refine⟨_,bI _ _ _,?_⟩;rw[←iT];refine⟨_,bI _ _ _,_,bI _ _ _,?_⟩;rw[←iT];have dz:wi a.sum 1 1099511627776=(wi a.sum 0 1099511627776&&decide (0<a.sum)):=by
  rw[nG];simp[wi];omega
 have hfm:wi a.form 0 1=(decide (a.form=0)||decide (a.form=1)):=by
  rw[nG];simp[wi];omega
 unfold yq at hX;rw[dz,hfm] at hX;have fin:∀at_ own:Bool,(if ¬a.kind=4∧¬a.form=0 then false else if a.kind=0∨a.kind=1∨a.kind=2 then(au a.to r.firms.length&&decide (a.at_=-1))&&decide (a.sum=0)
  else if a.kind=3∨a.kind=4∨a.kind=5 then((au a.to r.firms.length&&decide (a.at_=-1))&&wi a.sum 0 1099511627776)&&(decide (a.form=0)||decide (a.form=1))
  else if a.kind=6 then(au a.to r.firms.length&&own)&&(wi a.sum 0 1099511627776&&decide (0<a.sum))
  else if a.kind=9 then(decide (a.to=-1)&&own)&&decide (a.sum=0)
  else(decide (a.to=-1)&&at_)&&decide (a.sum=0))=X→
  (if a.kind=0∨a.kind=1∨a.kind=2 then((au a.to r.firms.length&&decide (a.at_=-1))&&decide (a.sum=0))&&decide (a.form=0)
   else if a.kind=3∨a.kind=5 then((au a.to r.firms.length&&decide (a.at_=-1))&&wi a.sum 0 1099511627776)&&decide (a.form=0)
   else if a.kind=4 then((au a.to r.firms.length&&decide (a.at_=-1))&&wi a.sum 0 1099511627776)&&(decide (a.form=0)||decide (a.form=1))
   else if a.kind=6 then(((au a.to r.firms.length&&own)&&wi a.sum 0 1099511627776)&&decide (0<a.sum))&&decide (a.form=0)
   else if a.kind=9 then((decide (a.to=-1)&&own)&&decide (a.sum=0))&&decide (a.form=0)
   else if a.kind=7∨a.kind=8 then((decide (a.to=-1)&&at_)&&decide (a.sum=0))&&decide (a.form=0)
   else false)=X:=by
  intro at_ own hX;rw[←hX];by_cases hf:a.form=0
  ·simp only[hf,not_true,and_false,if_false,decide_true,Bool.and_true,vP];obtain h|h|h|h|h|h|h|h|h|h:a.kind=0∨a.kind=1∨a.kind=2∨a.kind=3∨a.kind=4∨a.kind=5∨a.kind=6∨a.kind=7∨a.kind=8∨a.kind=9:=by omega
   all_goals simp[h,FU]
  ·by_cases h4:a.kind=4
   ·simp[h4,hf]
   ·simp only[h4,hf,not_false_eq_true,and_self,if_true,decide_false,tL,if_false]
    repeat' split
    all_goals first|rfl|(rename_i h;exact absurd h.symm (by omega))
 have jP:a.kind=0∨a.kind=1∨a.kind=2∨a.kind=3∨a.kind=4∨a.kind=5∨a.kind=6∨a.kind=7∨a.kind=8∨a.kind=9:=by omega
 cases h1:au a.at_ f.signs.length
 ·have sG:=fin false false (by simpa [va,mV,h1] using hX);clear fin hX;simp;obtain h|h|h|h|h|h|h|h|h|h:=jP
  all_goals
   simp[h] at sG ⊢
   first
        |done
        |(subst sG
          simp[O6,O7,FU,Vb])
 ·have cE:0≤a.at_∧a.at_<f.signs.length:=by simpa [au] using h1
  have h2:a.at_.toNat<f.signs.length:=by omega
  have hs:bD f a.at_=f.signs[a.at_.toNat]:=by simp[bD,h2]
  have na:=acu f a.at_ a.part (.inr cE);have sG:=fin (kC f a.at_ a.part) (kC f a.at_ a.part&&decide (f.signs[a.at_.toNat].who=a.who)) (by rw[←hX];unfold va mV;rw[hs,h1];simp);clear fin hX;simp;refine⟨_,na,?_⟩;cases bM:kC f a.at_ a.part
  ·rw[bM] at sG;simp;obtain h|h|h|h|h|h|h|h|h|h:=jP
   all_goals
        simp[h] at sG ⊢
        first
         |done
         |(subst sG
           simp[O6,O7,FU,Vb])
  ·rw[bM] at sG;simp[cE,h2];obtain h|h|h|h|h|h|h|h|h|h:=jP
   all_goals
        simp[h] at sG ⊢
        first
         |done
         |(subst sG
           simp[O6,O7,FU,Vb])
end Rm
