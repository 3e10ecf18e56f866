/-
  Shared texts of this claim.
-/
import Derived.Test.YtipjidjopglknaaGreatDoorEAP
set_option linter.unusedSimpArgs false
set_option linter.unusedVariables false
noncomputable section
namespace Rm
open Go Go.Proofs Cx
def mw (n:Nat)(g:Nat→Bool):Int:=if(List.range n).findIdx g<n then((List.range n).findIdx g:Nat) else-1
theorem C2 (n:Nat)(g:Nat→Bool):(mw n g=-1∧∀k,k<n→g k=false)∨∃k:Nat,k<n∧mw n g=k∧g k=true∧∀i,i<k→g i=false:=by
 unfold mw;split
 ·rename_i h;refine .inr ⟨_,h,rfl,?_,fun i hi=>?_⟩
  ·have:=List.findIdx_getElem (p:=g) (xs:=List.range n) (w:=by simpa using h);simpa using this
  ·have:=List.not_of_lt_findIdx (p:=g) (xs:=List.range n) hi;simpa using this
 ·rename_i h;refine .inl ⟨rfl,fun k hk=>?_⟩;have:=List.not_of_lt_findIdx (p:=g) (xs:=List.range n) (i:=k) (by omega);simpa using this
theorem Nc {n:Nat}{g:Nat→Bool}(h:∀k,k<n→g k=false):mw n g=-1:=by
 rcases C2 n g with⟨h1,_⟩|⟨k,hk,_,h2,_⟩
 ·exact h1
 ·rw[h k hk] at h2;cases h2
theorem Nd {n k:Nat}{g:Nat→Bool}(hk:k<n)(h:g k=true)(hj:∀i,i<k→g i=false):mw n g=k:=by
 rcases C2 n g with⟨_,h1⟩|⟨m,hm,h1,h2,h3⟩
 ·rw[h1 k hk] at h;cases h
 ·rcases Nat.lt_trichotomy m k with h4|h4|h4
  ·rw[hj m h4] at h2;cases h2
  ·rw[h1,h4]
  ·rw[h3 k h4] at h;cases h
theorem WD (n:Nat)(g:Nat→Bool):decide (0≤mw n g)=(List.range n).any g:=by
 rcases C2 n g with⟨h1,h2⟩|⟨m,hm,h1,h2,h3⟩
 ·rw[h1]
  symm
  simp;exact h2
 ·rw[h1];simp;exact⟨m,hm,h2⟩
theorem ab7 (l:List Rule)(f:Nat)(caps:List D)(g:Nat→Bool)(hg:∀k (hk:k<l.length),ak T f (ri l[k]::caps) (.bool (g k)))(hl:l.length≤4294967296):
 ak T 113 [rules l,.clo f caps] (.int (mw l.length g)):=by
 refine .of_tree rfl (lA 30 (by kernel_rfl)) apQ ?_;simp[RE];refine .scan l.length (fun k=>g k=false) (fun k=>[.int 0,.int k]) (fun _=>[]) ?_ (fun k hk hj ho=>?_) (fun k hk hj ho=>?_) (fun hj=>?_)
 ·simp
 ·have hw:=bC hk hl;simp[PD,Eg,hk,hw];refine⟨_,_,⟨rfl,rfl⟩,_,hg k hk,?_⟩;simp[ho,hw]
 ·have he:=Nd hk (by simpa using ho) hj;simp[PD,Eg,hk,he];refine⟨_,_,⟨rfl,rfl⟩,_,hg k hk,?_⟩;simp[ho]
 ·have he:=Nc hj;simp[PD,Eg,he]
theorem ab8 (l:List Int)(f:Nat)(caps:List D)(g:Nat→Bool)(hg:∀k (hk:k<l.length),ak T f (.int l[k]::caps) (.bool (g k)))(hl:l.length≤4294967296):
 ak T 173 [ints l,.clo f caps] (.int (mw l.length g)):=by
 refine .of_tree rfl (lA 25 (by kernel_rfl)) apR ?_;simp[RF];refine .scan l.length (fun k=>g k=false) (fun k=>[.int 0,.int k]) (fun _=>[]) ?_ (fun k hk hj ho=>?_) (fun k hk hj ho=>?_) (fun hj=>?_)
 ·simp
 ·have hw:=bC hk hl;simp[PF,Eh,hk,hw,ints];refine⟨_,_,⟨rfl,rfl⟩,_,hg k hk,?_⟩;simp[ho,hw]
 ·have he:=Nd hk (by simpa using ho) hj;simp[PF,Eh,hk,he,ints];refine⟨_,_,⟨rfl,rfl⟩,_,hg k hk,?_⟩;simp[ho]
 ·have he:=Nc hj;simp[PF,Eh,he,ints]
theorem ab6 (l:List Alter)(f:Nat)(caps:List D)(g:Nat→Bool)(hg:∀k (hk:k<l.length),ak T f (og l[k]::caps) (.bool (g k)))(hl:l.length≤4294967296):
 ak T 104 [alters l,.clo f caps] (.int (mw l.length g)):=by
 refine .of_tree rfl (lA 13 (by kernel_rfl)) apP ?_;simp[RD];refine .scan l.length (fun k=>g k=false) (fun k=>[.int 0,.int k]) (fun _=>[]) ?_ (fun k hk hj ho=>?_) (fun k hk hj ho=>?_) (fun hj=>?_)
 ·simp
 ·have hw:=bC hk hl;simp[PB,Ef,hk,hw];refine⟨_,_,⟨rfl,rfl⟩,_,hg k hk,?_⟩;simp[ho,hw]
 ·have he:=Nd hk (by simpa using ho) hj;simp[PB,Ef,hk,he];refine⟨_,_,⟨rfl,rfl⟩,_,hg k hk,?_⟩;simp[ho]
 ·have he:=Nc hj;simp[PB,Ef,he]
theorem ab3 (l:List Int)(f:Nat)(caps:List D)(g:Nat→Bool)(hg:∀k (hk:k<l.length),ak T f (.int l[k]::caps) (.bool (g k)))(hl:l.length≤4294967296):
 ak T 150 [ints l,.clo f caps] (.bool ((List.range l.length).any g)):=by
 refine .of_tree rfl (lA 24 (by kernel_rfl)) apM ?_;simp[Rz];refine⟨_,ab8 l f caps g hg hl,?_⟩;have:=WD l.length g;simp[←this]
theorem ab2 (l:List Alter)(f:Nat)(caps:List D)(g:Nat→Bool)(hg:∀k (hk:k<l.length),ak T f (og l[k]::caps) (.bool (g k)))(hl:l.length≤4294967296):
 ak T 55 [alters l,.clo f caps] (.bool ((List.range l.length).any g)):=by
 refine .of_tree rfl (lA 12 (by kernel_rfl)) apL ?_;simp[Ry];refine⟨_,ab6 l f caps g hg hl,?_⟩;have:=WD l.length g;simp[←this]
def yx (cs:List Cell)(t:Tm):Cell:=if(ln t).2=0 then bE 8 cs t else dU
theorem KR {t:Tm}(h:(ln t).2=0):cG 8 t≤60∧bW 8 t=((ln t).1,0):=by
 unfold ln at h ⊢;split at h
 ·cases h
 ·rename_i hm;rw[if_neg hm];exact⟨by omega,by rw[←h]⟩
theorem aoe (t:Tm)(cs:List Cell)(ht:t.OK):ak T 72 [df t,cells cs] (cN (yx cs t)):=by
 refine .of_tree rfl (lA 36 (by kernel_rfl)) ap1 ?_;simp[RP,yx];refine⟨_,Qb t ht,?_⟩;by_cases h:(ln t).2=0
 ·obtain⟨h1,h2⟩:=KR h;simp[h];refine⟨_,aom 8 cs t _ ht h1 h2,?_⟩;simp
  try rfl
 ·simp[h]
  try rfl
def ND:List Int:=[6,7,10,12,13,14,15,16,20,21]
def py (ask:Int):Int×Bool:=if ask<0∨22≤ask then(0,false) else if hasB ND ask then(0,true) else(1,true)
theorem Oc (ask:Int):ak T 69 [.int ask] (.tup [.int (py ask).1,.bool (py ask).2]):=by
 refine .of_tree rfl (lA 18 (by kernel_rfl)) aoX ?_;simp[QJ,py];by_cases h0:ask<0
 ·simp[h0]
 by_cases h1:22≤ask
 ·simp[h0,h1]
 simp[h0,h1];refine⟨_,xd ND ask (by decide),?_⟩;cases h:hasB ND ask<;>simp[h]
def HN:Tm:=⟨0,0,[]⟩
def ue (o:Order)(ask:Int)(k:Nat):Bool:=decide ((o.rules.getD k default).ask=ask)
def Ev (o:Order)(i:Int):Tm:=(o.rules.getD i.toNat default).term
def findF (o:Order)(ask:Int):Tm×Int:=
 if(py ask).2=false then(HN,1) else if mw o.rules.length (ue o ask)<0 then(HN,4) else
    if(ln (Ev o (mw o.rules.length (ue o ask)))).2≠0∨(ln (Ev o (mw o.rules.length (ue o ask)))).1≠(py ask).1 then(HN,11) else(Ev o (mw o.rules.length (ue o ask)),0)
theorem aaB {o:Order}(ho:o.OK){m:Nat}(hm:m<o.rules.length):o.rules[m].term.OK:=(ho.2.2 _ (cT hm)).2
theorem NC:HN.OK:=by
 exact .mk 0 0 [] (by unfold aT;omega) (by unfold aT;omega) (by decide) (fun _ h=>by cases h)
theorem Uq {o:Order}(ho:o.OK)(ask:Int):(findF o ask).1.OK:=by
 unfold findF;split
 ·exact NC
 split
 ·exact NC
 split
 ·exact NC
 ·rename_i h _;rcases C2 o.rules.length (ue o ask) with⟨h1,h2⟩|⟨m,hm,h1,h2,h3⟩
  ·exact absurd (by rw[h1];decide) h
  ·rw[h1];simp[Ev,hm];exact aaB ho hm
theorem afp (r:Rule)(ask:Int):ak T 114 [ri r,.ref (.int ask)] (.bool (decide (r.ask=ask))):=by
 refine .of_tree rfl (lA 29 (by kernel_rfl)) aoY ?_;simp[QL]
theorem YW (o:Order)(ask:Int)(ho:o.OK)(hl:o.rules.length≤4294967296):ak T 71 [ir o,.int ask] (.tup [df (findF o ask).1,.int (findF o ask).2]):=by
 refine .of_tree rfl (lA 28 (by kernel_rfl)) aoZ ?_;simp[QK,findF];refine⟨_,Oc ask,?_⟩;cases h0:(py ask).2
 ·simp[h0]
  try rfl
 simp[h0];refine⟨_,ab7 o.rules 114 [.ref (.int ask)] (ue o ask) (fun k hk=>by simpa [ue,hk] using afp o.rules[k] ask) hl,?_⟩;rcases C2 o.rules.length (ue o ask) with⟨h1,h2⟩|⟨m,hm,h1,h2,h3⟩
 ·rw[h1];simp
  try rfl
 ·rw[h1];have Cz:¬((m:Int)<0):=by omega
  have htm:o.rules[m].term.OK:=aaB ho hm;simp[hm,Ev,Cz];refine⟨_,Qb _ htm,?_⟩;by_cases h4:(ln o.rules[m].term).2=0<;>by_cases h5:(ln o.rules[m].term).1=(py ask).1<;>simp[h4,h5]<;>try rfl
def xo (o:Order)(ask:Int)(cs:List Cell):Cell×Int:=
 if(findF o ask).2≠0 then(dU,(findF o ask).2) else
    (if(py ask).1=0∧(yx cs (findF o ask).1).known=true then⟨true,min (max (yx cs (findF o ask).1).n 0) 20000⟩ else yx cs (findF o ask).1,0)
theorem ame (o:Order)(ask:Int)(cs:List Cell)(ho:o.OK)(hl:o.rules.length≤4294967296):ak T 34 [ir o,.int ask,cells cs] (.tup [cN (xo o ask cs).1,.int (xo o ask cs).2]):=by
 refine .of_tree rfl (lA 27 (by kernel_rfl)) aoV ?_;simp[QH];refine⟨_,YW o ask ho hl,?_⟩;have hf:(findF o ask).1.OK:=Uq ho ask;by_cases h:(findF o ask).2=0
 ·simp[h,xo];refine⟨_,aoe _ cs hf,_,Oc ask,?_⟩;generalize yx cs (findF o ask).1=c;obtain⟨kn,n⟩:=c;by_cases h1:(py ask).1=0
  ·cases kn
   ·simp[h1,cN]
   ·by_cases h2:n<0
    ·have:min (max n 0) 20000=0:=by omega
     simp[h1,cN,h2,this];rfl
    ·by_cases h3:20000<n
     ·have:min (max n 0) 20000=20000:=by omega
      simp[h1,cN,h2,h3,this];rfl
     ·have:min (max n 0) 20000=n:=by omega
      simp[h1,cN,h2,h3,this];rfl
  ·simp[h1,cN]
 ·simp[h,xo]
  try rfl
end Rm
namespace Rm
open Go Go.Proofs Cx
theorem aal (b:Bool):ak T 58 [.bool b] (cN (gH b)):=by
 refine .of_tree rfl (lA 16 (by kernel_rfl)) apI ?_;cases b<;>simp[Rv,gH]<;>rfl
def Gs (kind sign:Int)(x:Fact):Bool:=decide (x.kind=kind)&&decide (x.at_=sign)
def kH (f:File)(kind sign:Int):Cell:=match f.facts.find? (Gs kind sign) with|none=>dU|some x=>gH (decide (x.n≠0))
theorem BQ {α:Type}{p:α→Bool}:∀{l:List α} {k:Nat} (hk:k<l.length),p l[k]=true→(∀j (hj:j<k),p (l[j]'(by omega))=false)→l.find? p=some l[k]
 |a::l,0,hk,h,hj=>by simp at h;simp[h]
 |a::l,k+1,hk,h,hj=>by
  have h0:=hj 0 (by omega);simp at h0;simp only[List.find?_cons,h0,List.getElem_cons_succ];exact BQ (by simpa using hk) (by simpa using h) (fun j bG=>by simpa using hj (j+1) (by omega))
theorem Gu {α:Type}{p:α→Bool}{l:List α}(h:∀j (hj:j<l.length),p l[j]=false):l.find? p=none:=by
 rw[xj];intro x hx;obtain⟨j,hj,rfl⟩:=mO hx;rw[h j hj];decide
theorem Er (f:File)(kind sign:Int)(hl:f.facts.length≤4294967296):ak T 59 [ga f,.int kind,.int sign] (cN (kH f kind sign)):=by
 refine .of_tree rfl (lA 17 (by kernel_rfl)) apE ?_;simp[Rs];refine .scan f.facts.length (fun k=>Gs kind sign (f.facts.getD k default)=false) (fun k=>[.int k]) (fun _=>[cN dU]) ?_ (fun k hk hj ho=>?_) (fun k hk hj ho=>?_) (fun hj=>?_)
 ·simp
 ·have hw:=bC hk hl;simp[hk,Gs] at ho;by_cases h1:f.facts[k].kind=kind<;>by_cases h2:f.facts[k].at_=sign
  ·exact absurd h2 (ho h1)
  all_goals simp[Px,Ec,hk,hw,h1,h2]
 ·have hw:=bC hk hl;have hf:kH f kind sign=gH (decide (f.facts[k].n≠0)):=by
   unfold kH;rw[BQ hk (by simpa [hk] using ho) (fun j bG=>by have:=hj j bG;simpa [show j<f.facts.length by omega] using this)]
  simp[hk,Gs] at ho;simp[Px,Ec,hk,hw,ho,hf];refine⟨_,aal _,?_⟩;simp
  try rfl
 ·have hf:kH f kind sign=dU:=by
   unfold kH;rw[Gu (fun j bG=>by have:=hj j bG;simpa [bG] using this)]
  simp[Px,Ec,hf]
  try rfl
def gk (r:Realm)(c:Int):Int:=if aL c r.cities.length=true then(r.cities.getD c.toNat default).order else-1
theorem pk (r:Realm)(c:Int):ak T 57 [bl r,.int c] (.int (gk r c)):=by
 refine .of_tree rfl (lA 14 (by kernel_rfl)) apr ?_;simp[Rf,gk];refine⟨_,fF c r.cities.length,?_⟩;cases h:aL c r.cities.length
 ·simp[h]
 ·simp[aL] at h;have h1:c.toNat<r.cities.length:=by omega
  simp[h,h1]
def su (day:Int)(l:List Sign):List Sign:=l.takeWhile fun s=>decide (s.day≤day)
def EI (day:Int)(l:List Act):List Act:=l.takeWhile fun s=>decide (s.day≤day)
def nW (n:Nat)(a:Alter):Bool:=decide (a.at_≤(n:Int))
def pU (n:Nat)(x:Fact):Bool:=aL x.at_ n
def dX (f:File)(day:Int):File:=
 ⟨f.bill,su day f.signs,f.alters.filter (nW (su day f.signs).length),EI day f.acts,f.facts.filter (pU (su day f.signs).length)⟩
theorem Jy {α:Type}(p:α→Bool):∀(l:List α),∃m,m≤l.length∧l.takeWhile p=l.take m∧(∀k (hk:k<l.length),k<m→p l[k]=true)∧(∀hk:m<l.length,p l[m]=false)
 |[]=>⟨0,by simp,by simp,fun k hk=>by simp at hk,fun hk=>by simp at hk⟩
 |a::l=>by
  by_cases h:p a=true
  ·obtain⟨m,h1,h2,h3,h4⟩:=Jy p l;refine⟨m+1,by simp;omega,by simp[h,h2],fun k hk hm=>?_,fun hk=>?_⟩
   ·cases k with
    |zero=>simpa using h
    |succ k=>simpa using h3 k (by simpa using hk) (by omega)
   ·simpa using h4 (by simpa using hk)
  ·refine⟨0,by simp,by simp[h],fun k hk hm=>by omega,fun hk=>by simpa using h⟩
theorem Jj {α:Type}(p:α→Bool)(l:List α){k:Nat}(hk:k<l.length):(l.take (k+1)).filter p=(l.take k).filter p++if p l[k] then[l[k]] else[]:=by
 rw[nP hk,JI]
 congr 1
 cases h:p l[k]<;>simp[h]
def AP (b:Bill)(w x y z:D):D:=.agg [.int b.drawer,.int b.drawee,.int b.payee,.int b.sum,.int b.currency,.int b.tenor.kind,.int b.tenor.n,.int b.tenor.unit,.int b.day,.int b.city,.int b.pay,.int b.need,.int b.rate,.int b.flags,.int b.parts,w,x,y,z]
def na {α:Type}(l:List α):D:=match l with|[]=>.list []|_=>.none
@[simp] theorem avi {α:Type}:na ([]:List α)=.list []:=rfl
@[simp] theorem avh {α:Type}(l:List α)(x:α):na (l++[x])=.none:=by cases l<;>rfl
theorem PO (f:File)(day:Int)(h1:f.signs.length≤4294967295)(h2:f.acts.length≤4294967295)(h3:f.alters.length≤4294967295)(h4:f.facts.length≤4294967295):ak T 24 [ga f,.int day] (ga (dX f day)):=by
 refine .of_tree rfl (lA 8 (by kernel_rfl)) apD ?_;simp[Rr];obtain⟨m,hm,hS,U0,yJ⟩:=Jy (fun s:Sign=>decide (s.day≤day)) f.signs;obtain⟨n,hn,hA,hA1,hA2⟩:=Jy (fun s:Act=>decide (s.day≤day)) f.acts;refine aS.forRounds m (fun k=>[.int k]) (fun k=>[signs (f.signs.take k),AP f.bill (na (f.signs.take k)) (.list []) (.list []) (.list [])]) ?_ (fun k hk=>?_) ?_
 ·simp[AP,signs]
  try rfl
 ·have bm:k<f.signs.length:=by omega
  have hw:=bC bm (by omega);have hd:=U0 k bm hk;simp at hd;have fp:¬day<f.signs[k].day:=by omega
  have hle:(k:Int)+1≤4294967296:=by omega
  have ht:=nP bm;rw[ht];have hlen:(f.signs.take k).length=k:=by simp;omega
  generalize f.signs.take k=A at*;simp[Pt,D8,bm,hw,fp,hlen];exact⟨hle,by simp[signs],rfl⟩
 have hSl:(f.signs.take m).length≤4294967295:=by rw[dN];omega
 have hAt:dX f day=⟨f.bill,f.signs.take m,f.alters.filter (nW (f.signs.take m).length),f.acts.take n,f.facts.filter (pU (f.signs.take m).length)⟩:=by
  unfold dX su EI;rw[hS,hA]
 rw[hAt];generalize f.signs.take m=S at*;have hAl:(f.acts.take n).length≤4294967295:=by rw[dN];omega
 by_cases ei:m<f.signs.length
 case' pos=>
  have hd:=yJ ei;simp at hd;simp[Pt,D8,ei,hd];generalize D.bool true=bb
 case' neg=>
  have Cu:m=f.signs.length:=by omega
  simp[Pt,D8,ei,Cu];generalize D.bool false=bb
 all_goals
  refine aS.forRounds n (fun k=>[.int k]) (fun k=>[acts (f.acts.take k),AP f.bill (na S) (.list []) (na (f.acts.take k)) (.list [])]) ?_ (fun k hk=>?_) ?_
  ·simp[acts]
  ·have bm:k<f.acts.length:=by omega
   have hw:=bC bm (by omega);have hd:=hA1 k bm hk;simp at hd;have fp:¬day<f.acts[k].day:=by omega
   have hle:(k:Int)+1≤4294967296:=by omega
   have ht:=nP bm;rw[ht];have hlen:(f.acts.take k).length=k:=by simp;omega
   generalize f.acts.take k=A at*;simp[Pu,D9,bm,hw,fp,hlen];exact⟨hle,by simp[acts],rfl⟩
  generalize f.acts.take n=A at*;by_cases gR:n<f.acts.length
  case' pos=>
   have hd:=hA2 gR;simp at hd;simp[Pu,D9,gR,hd];generalize D.bool true=bc
  case' neg=>
   have tq:n=f.acts.length:=by omega
   simp[Pu,D9,gR,tq];generalize D.bool false=bc
  all_goals
   refine aS.forRounds f.alters.length (fun k=>[.int k]) (fun k=>[AP f.bill (na S) (na ((f.alters.take k).filter (nW S.length))) (na A) (.list []),alters ((f.alters.take k).filter (nW S.length))]) ?_ (fun k hk=>?_) ?_
   ·simp[alters]
   ·have hw:=bC hk (by omega);have ht:=Jj (nW S.length) f.alters hk;rw[ht];have hlen:((f.alters.take k).filter (nW S.length)).length≤k:=ij (sH _ _) (by simp;omega);generalize (f.alters.take k).filter (nW S.length)=B at*;by_cases hd:f.alters[k].at_≤(S.length:Int)
    ·simp[Pv,Ea,nW,hk,hw,hd];exact⟨by omega,rfl,by simp[alters]⟩
    ·simp[Pv,Ea,nW,hk,hw,hd]
   simp[Pv,Ea];generalize f.alters.filter (nW S.length)=B at*;refine aS.forRounds f.facts.length (fun k=>[.int k]) (fun k=>[AP f.bill (na S) (na B) (na A) (na ((f.facts.take k).filter (pU S.length))),facts ((f.facts.take k).filter (pU S.length))]) ?_ (fun k hk=>?_) ?_
   ·simp[facts]
   ·have hw:=bC hk (by omega);have ht:=Jj (pU S.length) f.facts hk;rw[ht];have hlen:((f.facts.take k).filter (pU S.length)).length≤k:=ij (sH _ _) (by simp;omega);generalize (f.facts.take k).filter (pU S.length)=C at*;cases hd:aL f.facts[k].at_ S.length
    ·simp[Pw,Eb,pU,hk,hw,hd];refine⟨_,po _ _,?_⟩;simp[hd,hw]
    ·simp[Pw,Eb,pU,hk,hw,hd];refine⟨_,po _ _,?_⟩;simp[hd,hw];exact⟨by omega,rfl,by simp[facts]⟩
   simp[Pw,Eb];rfl
end Rm
namespace Rm
open Go Go.Proofs Cx
def zp:List Int→Int
 |[]=>-1
 |x::l=>l.foldl min x
theorem acj (x:Int)(l:List Int)(hl:l.length<4294967296):ak T 90 [ints (x::l)] (.int (zp (x::l))):=by
 refine .of_tree rfl (lA 47 (by kernel_rfl)) apU ?_;have h0:¬((l.length:Int)+1<1):=by omega
 simp[RI,h0,zp,ints];refine aS.forRounds l.length (fun k=>[.int ((l.take k).foldl min x),.int ((k:Int)+1)]) (fun k=>[]) ?_ (fun k hk=>?_) ?_
 ·simp
 ·have hw:IntKind.i64.wrap ((k:Int)+1+1)=(k:Int)+1+1:=cY (by omega);rw[nP hk,JK];generalize (l.take k).foldl min x=y;have ht:((k:Int)+1).toNat=k+1:=by omega
  have af:(k:Int)+1<(l.length:Int)+1:=by omega
  simp[aad,IV,hk,hw,ht,af];refine⟨by omega,?_⟩;by_cases h:l[k]<y
  ·simp[h];omega
  ·simp[h];omega
 ·simp[aad,IV]
def mJ (f:File)(n:Nat):List Int:=if f.bill.tenor.kind=1 then((f.signs.take n).filter (fun s=>decide (s.kind=1))).map (·.day) else[]
def k9 (f:File)(n:Nat):List Int:=if f.bill.tenor.kind=1 then((f.acts.take n).filter (fun s=>decide (s.kind=1))).map (·.day) else[]
def EC (f:File)(a:Act):Bool:=decide (f.bill.tenor.kind=0)&&decide (a.kind=2)
def uh (f:File):Int:=match f.acts.find? (EC f) with|some a=>a.day|none=>zp (mJ f f.signs.length++k9 f f.acts.length)
theorem anp (f:File)(h1:f.signs.length≤100000)(h2:f.acts.length≤100000):ak T 45 [ga f] (.int (uh f)):=by
 refine .of_tree rfl (lA 46 (by kernel_rfl)) apF ?_;simp[Rt];refine aS.forRounds f.signs.length (fun k=>[.none,.int k]) (fun k=>[ints (mJ f k)]) ?_ (fun k hk=>?_) ?_
 ·simp[mJ,ints]
 ·have hw:=bC hk (by omega);have hs:mJ f (k+1)=mJ f k++if f.bill.tenor.kind=1∧f.signs[k].kind=1 then[f.signs[k].day] else[]:=by
   unfold mJ;by_cases h:f.bill.tenor.kind=1
   ·simp only[if_pos h,Jj _ _ hk,nO,h,true_and]
    congr 1
    by_cases h':f.signs[k].kind=1<;>simp[h']
   ·simp[h]
  have hlen:(mJ f k).length≤k:=by
   unfold mJ;split
   ·rw[ed];exact ij (sH _ _) (by simp;omega)
   ·simp
  rw[hs];generalize mJ f k=A at*;by_cases hc:f.bill.tenor.kind=1∧f.signs[k].kind=1
  ·simp[Py,Ed,hk,hw,hc];exact⟨by omega,by simp[ints]⟩
  ·simp[Py,Ed,hk,hw,hc]
 ·have hlS:(mJ f f.signs.length).length≤100000:=by
   unfold mJ;split
   ·rw[ed];exact ij (sH _ _) (by simp;omega)
   ·simp
  have hE:uh f=match f.acts.find? (EC f) with|some a=>a.day|none=>zp (mJ f f.signs.length++k9 f f.acts.length):=rfl
  generalize mJ f f.signs.length=A at*;simp[Py,Ed];refine aS.scan f.acts.length (fun k=>EC f (f.acts.getD k default)=false) (fun k=>[.int 0,.none,.int k]) (fun k=>[ints (A++k9 f k)]) ?_ (fun k hk hj ho=>?_) (fun k hk hj ho=>?_) (fun hj=>?_)
  ·simp[k9,ints]
  ·have hw:=bC hk (by omega);have hs:k9 f (k+1)=k9 f k++if f.bill.tenor.kind=1∧f.acts[k].kind=1 then[f.acts[k].day] else[]:=by
        unfold k9;by_cases h:f.bill.tenor.kind=1
        ·simp only[if_pos h,Jj _ _ hk,nO,h,true_and]
         congr 1
         by_cases h':f.acts[k].kind=1<;>simp[h']
        ·simp[h]
   have hlen:(k9 f k).length≤k:=by
        unfold k9;split
        ·rw[ed];exact ij (sH _ _) (by simp;omega)
        ·simp
   rw[hs];generalize k9 f k=B at*;simp[EC,hk] at ho;by_cases hc:f.bill.tenor.kind=1∧f.acts[k].kind=1
   ·simp[Ee,wN,hk,hw,hc];exact⟨by omega,by simp[ints]⟩
   ·have hn:¬(f.bill.tenor.kind=0∧f.acts[k].kind=2):=fun h=>ho h.1 h.2;simp[Ee,wN,hk,hw,hc,hn]
  ·have hf:uh f=f.acts[k].day:=by
        rw[hE,BQ hk (by simpa [hk] using ho) (fun j bG=>by have:=hj j bG;simpa [show j<f.acts.length by omega] using this)]
   simp[EC,hk] at ho;simp[Ee,wN,hk,ho,hf]
  ·have hf:uh f=zp (A++k9 f f.acts.length):=by
        rw[hE,Gu (fun j bG=>by have:=hj j bG;simpa [bG] using this)]
   have hlA:(k9 f f.acts.length).length≤100000:=by
        unfold k9;split
        ·rw[ed];exact ij (sH _ _) (by simp;omega)
        ·simp
   rw[hf];have hL:(A++k9 f f.acts.length).length≤200000:=by rw[kF];omega
   generalize A++k9 f f.acts.length=L at*;cases L with
   |nil=>simp[Ee,wN,zp,ints]
   |cons x l=>
    have ay:¬((l.length:Int)+1=0):=by omega
    simp[Ee,wN,ay];exact acj x l (by simp at hL;omega)
end Rm
namespace Rm
open Go Go.Proofs Cx
def gK (g:Nat→Cell):D:=.list ((List.range 20).map fun i=>cN (g i))
theorem TK {g g':Nat→Cell}(h:∀i,i<20→g i=g' i):gK g=gK g':=by
 unfold gK
 congr 1
 exact xl fun i hi=>by rw[h i (by simpa using hi)]
theorem TL (g:Nat→Cell)(k:Nat)(c:Cell):D.list ((gK g).l.set k (cN c))=gK (fun i=>if i=k then c else g i):=by
 unfold gK
 congr 1
 show((List.range 20).map fun i=>cN (g i)).set k (cN c)=_;apply List.ext_getElem
 ·simp
 ·intro i h1 h2;simp at h2;rw[List.getElem_set];by_cases h:k=i
  ·simp[h]
  ·have h':¬i=k:=fun e=>h e.symm;simp[h,h']
@[simp] theorem ati (g:Nat→Cell):(gK g).l.length=20:=by
  show((List.range 20).map fun i=>cN (g i)).length=20;simp
theorem Fg (g:Nat→Cell){k:Nat}(hk:k<20):(gK g).l[k]?.getD D.none=cN (g k):=by
 show((List.range 20).map fun i=>cN (g i))[k]?.getD D.none=cN (g k);simp[hk]
theorem adD (g:Nat→Cell){k:Nat}(hk:k<(gK g).l.length):(gK g).l[k]=cN (g k):=by
 have h:=Fg g (k:=k) (by simpa using hk);rw[bq hk] at h;exact h
theorem adF (g:Nat→Cell)(k:Nat)(c:Cell):(gK g).l.set k (cN c)=(gK (fun i=>if i=k then c else g i)).l:=congrArg D.l (TL g k c)
theorem adE (g:Nat→Cell):D.list (gK g).l=gK g:=rfl
@[simp] theorem awV (x:Cell)(b:Bool)(n:Int):uk (cN x) 0 (D.agg [D.bool b,D.int n])=cN ⟨b,n⟩:=_root_.id rfl
def yy {α:Type}(l:List (Int×α))(val:α→Cell)(g0:Nat→Cell)(i:Nat):Cell:=match l.find? (fun p=>decide (p.1=(i:Int))) with|some p=>val p.2|none=>g0 i
def qo {α:Type}(enc:α→D)(p:Int×α):D:=.tup [.int p.1,enc p.2]
theorem W8 {α:Type}{J o:Nat}{ps cS:List Nat}{a:PC}{ρ:Env}{Q:Out→Prop}(l:List (Int×α))(enc:α→D)(val:α→Cell)(g0:Nat→Cell)
 (nd:∀p q,p∈l→q∈l→p.1=q.1→p=q) (PW:∀p,p∈l→0≤p.1) (he:ρ.o J=.tup [.list [],.map (l.map fun p=>(.int p.1,enc p.2))]) (h0:ρ.o o=gK g0)
 (step:∀p,p∈l→∀g done,aE T (pw [o] a) ((ρ.put ps (cS.map (qo enc p).tget) [o] [gK g]).setO J (.tup [.list (done++[qo enc p]),.map (l.map fun p=>(.int p.1,enc p.2))])) (fun y=>∃ρ',y=.next ρ'∧ρ'.o o=.list ((gK g).l.set p.1.toNat (cN (val p.2)))))
 (last:Q (.next (ρ.put [] [] [o] [gK (yy l val g0)]))):aS T (.meach J ps cS [o] a) ρ Q:=by
 have ml:gY (.map (l.map fun p=>((D.int p.1,enc p.2):D×D)))=l.map (qo enc):=by
  simp[gY,qo]
 refine .meachR _ he (fun done vo=>∃g:Nat→Cell,vo=[gK g]∧(∀p,p∈l→qo enc p∈done→g p.1.toNat=val p.2)∧∀i:Nat,(∀p,p∈l→qo enc p∈done→p.1≠i)→g i=g0 i) ⟨g0,by simp[h0],(fun p _ h=>by cases h),fun i _=>rfl⟩ (fun done x rest vo hp ⟨g,hv,m4,gB⟩=>?_) ⟨_,fun done hp vo ⟨g,hv,m4,gB⟩=>?_,last⟩
 ·subst hv;rw[ml] at hp;have hx:x∈l.map (qo enc):=hp.subset (by simp);obtain⟨p,fa,rfl⟩:=dP.mp hx;refine xm _ (fun y ⟨ρ',e,ho⟩=>⟨ρ',e,fun i=>if i=p.1.toNat then val p.2 else g i,by simp[ho,TL],fun q hq MA=>?_,fun i hi=>?_⟩) (step p fa g done)
  ·have MB:=PW q hq;have oG:=PW p fa;by_cases h:q.1=p.1
   ·rw[nd q p hq fa h];simp
   ·show(if q.1.toNat=p.1.toNat then val p.2 else g q.1.toNat)=val q.2;rw[if_neg (by omega)];rcases dy.mp MA with h1|h1
    ·exact m4 q hq h1
    ·simp[qo] at h1;exact absurd h1.1 h
  ·have oG:=PW p fa;have cU:=hi p fa (by simp);show(if i=p.1.toNat then val p.2 else g i)=g0 i;rw[if_neg (by omega)];exact gB i fun q hq MA=>hi q hq (by simp[MA])
 ·rw[hv,ml] at*
  congr 1
  refine TK fun i hi=>?_;unfold yy;cases hf:l.find? (fun p=>decide (p.1=(i:Int))) with
  |some p=>
   have fa:=uG hf;have Hl:p.1=(i:Int):=by simpa using JJ hf
   have:=m4 p fa (hp.symm.subset (List.mem_map_of_mem fa));simp only;rw[←this,Hl];rfl
  |none=>
   refine gB i fun p fa _=>?_;have:=xj.mp hf p fa;simpa using this
@[simp] theorem avF (a b:Int):dZ (D.int a) (D.int b)=decide (a=b):=by
  show((a==b)&&true)=decide (a=b);rw[Bool.and_true];by_cases h:a=b<;>simp[h]
def BV (n k:Int):Bool:=decide (eH .and .i64 n k≠0)
def zj (s:Sign)(due:Int):Int:=if due=-1 then 0 else s.day-due
def Td (f:File)(sign:Int):Bool:=(List.range f.alters.length).any fun k=>decide ((f.alters.getD k default).at_≤sign)
def oD (c:Case):Int:=if c.holder<0 then 0 else c.holder
def uc (c:Case)(s:Sign):List (Int×Int):=[(0,c.file.bill.sum),(1,c.file.bill.parts),(2,c.file.bill.tenor.kind),(3,c.file.bill.rate),(4,s.kind),(5,c.defence),(6,zj s c.due)]
def ud (r:Realm)(c:Case)(s:Sign):List (Int×Bool):=[(7,BV c.file.bill.flags 1),(8,decide (c.file.bill.payee=-1)),(9,BV c.file.bill.flags 4),(10,BV c.file.bill.flags 2),(11,decide (gk r c.file.bill.city≠gk r c.file.bill.pay)),(12,Td c.file c.sign),(13,BV s.flags 1),(14,decide (0<zj s c.due))]
def Ln (r:Realm)(c:Case)(s:Sign):List Cell:=
 (uc c s).map (fun p=>⟨true,p.2⟩)++(ud r c s).map (fun p=>gH p.2)++
    [kH c.file 0 c.sign,kH c.file 1 c.sign,kH c.file 2 c.sign,kH c.file 3 (oD c),kH c.file 4 (oD c)]
@[simp] theorem asT (x:Case):j9 19 (dI x)=ga x.file:=_root_.id rfl
@[simp] theorem asR (x:Case):j9 15 (dI x)=fK x.file.bill:=_root_.id rfl
@[simp] theorem asS (x:File):j9 15 (ga x)=fK x.bill:=_root_.id rfl
def sP (c:Case):Bool:=aL c.sign c.file.signs.length&&decide (-1≤c.holder)&&decide (oD c<c.file.signs.length)&&(decide (c.due=-1)||aL c.due 100001)
def gp (r:Realm)(c:Case):List Cell:=if sP c=true∧aL (c.file.signs.getD c.sign.toNat default).day 100001=true then Ln r c (c.file.signs.getD c.sign.toNat default) else[]
theorem anq (r:Realm)(c:Case)(h2:c.file.facts.length≤100000)(h3:c.file.alters.length≤100000):ak T 26 [bl r,dI c] (cells (gp r c)):=by
 refine .of_tree rfl (lA 10 (by kernel_rfl)) apH ?_;cases hs:aL c.sign c.file.signs.length
 ·have hv:gp r c=[]:=by unfold gp sP;rw[hs];simp
  rw[hv];simp[uq];refine⟨_,po _ _,?_⟩;simp[hs];rfl
 by_cases hh:c.holder< -1
 ·have hv:gp r c=[]:=by unfold gp sP;rw[hs];simp;intros;omega
  rw[hv];simp[uq,hh];exact⟨⟨_,po _ _⟩,rfl⟩
 by_cases hm:(c.file.signs.length:Int)≤oD c
 ·have hv:gp r c=[]:=by unfold gp sP;rw[hs];simp;intros;omega
  rw[hv];unfold oD at hm;simp[uq,hm];exact⟨⟨_,po _ _⟩,rfl⟩
 by_cases hd:c.due≠-1∧aL c.due 100001=false
 ·have hv:gp r c=[]:=by unfold gp sP;rw[hs];simp[hd]
  rw[hv];unfold oD at hm;obtain⟨aZ,dK⟩:=hd;simp[uq,hh,hm,aZ];refine⟨_,po _ _,?_⟩;simp[hs,hh,hm,aZ];refine⟨_,po _ _,?_⟩;simp[hs,hh,hm,aZ,dK];rfl
 have hcb:sP c=true:=by
  unfold sP;rw[hs];simp;refine⟨⟨by omega,by omega⟩,?_⟩;by_cases h:c.due=-1
  ·exact .inl h
  ·right;cases hb:aL c.due 100001
   ·exact absurd ⟨h,hb⟩ hd
   ·rfl
 have hlen:c.sign.toNat<c.file.signs.length:=by simp[aL] at hs;omega
 have fb:0≤c.sign∧c.sign<(c.file.signs.length:Int):=by simpa [aL] using hs
 obtain⟨s,CQ⟩:∃s:Sign,s=c.file.signs[c.sign.toNat]:=⟨_,rfl⟩
 have qe:c.file.signs.getD c.sign.toNat default=s:=by rw[CQ];simp[hlen]
 have hv:gp r c=if aL s.day 100001=true then Ln r c s else[]:=by
  unfold gp;rw[qe,hcb];simp
 rw[hv];unfold oD at hm;by_cases Cg:c.due=-1
 case' pos=>
  have Vh:(c.due=-1)=True:=eq_true Cg;simp[uq,hh,hm,Vh];refine⟨_,po _ _,?_⟩;simp[hs,hh,hm,Vh,hlen,←CQ,fb]
 case' neg=>
  have Cd:aL c.due 100001=true:=by
   cases hb:aL c.due 100001
   ·exact absurd ⟨Cg,hb⟩ hd
   ·rfl
  simp[uq,hh,hm,Cg];refine⟨_,po _ _,?_⟩;simp[hs,hh,hm,Cg];refine⟨_,po _ _,?_⟩;simp[hs,hh,hm,Cg,Cd,hlen,←CQ,fb]
 all_goals
  refine⟨_,po _ _,?_⟩;cases GV:aL s.day 100001
  ·simp[GV];rfl
  simp[GV,ky];refine W8 (uc c s) D.int (fun n=>⟨true,n⟩) (fun _=>dU) ?_ ?_ ?_ ?_ (fun p hp g done=>?_) ?_
  ·intro p q hp hq h;simp[uc] at hp hq;rcases hp with rfl|rfl|rfl|rfl|rfl|rfl|rfl<;>rcases hq with rfl|rfl|rfl|rfl|rfl|rfl|rfl<;>first|rfl|(simp at h)
  ·intro p hp;simp[uc] at hp;rcases hp with rfl|rfl|rfl|rfl|rfl|rfl|rfl<;>simp
  ·have LX:(if c.due=-1 then(0:Int) else IntKind.i64.wrap (s.day-c.due))=zj s c.due:=by
        unfold zj;by_cases h:c.due=-1
        ·simp[h]
        ·have Cd:aL c.due 100001=true:=by
          cases hb:aL c.due 100001
          ·exact absurd ⟨h,hb⟩ hd
          ·rfl
         simp[aL] at Cd GV;rw[if_neg h,if_neg h];exact cY (by omega)
   simp[uc,ky,hlen,←CQ];rw[←LX];by_cases h:c.due=-1<;>simp[h]
  ·simp[gK];rfl
  ·have hr:0≤p.1∧p.1<20:=by
        simp[uc] at hp;rcases hp with rfl|rfl|rfl|rfl|rfl|rfl|rfl<;>simp
   have hk:p.1.toNat<20:=by omega
   simp[am8,Pz,qo,Fg g hk];exact hr
  have aic:∀k (hk:k<c.file.alters.length),ak T 56 (og c.file.alters[k]::[.ref (dI c)]) (.bool (decide ((c.file.alters.getD k default).at_≤c.sign))):=fun k hk=>by
   refine .of_tree rfl (lA 11 (by kernel_rfl)) apG ?_;simp[Ru,hk]
  simp;refine⟨_,ab2 c.file.alters _ _ _ aic (by omega),_,pk r _,_,pk r _,?_⟩;have LX:(if c.due=-1 then(0:Int) else IntKind.i64.wrap (s.day-c.due))=zj s c.due:=by
   unfold zj;by_cases h:c.due=-1
   ·simp[h]
   ·have Cd:aL c.due 100001=true:=by
     cases hb:aL c.due 100001
     ·exact absurd ⟨h,hb⟩ hd
     ·rfl
    simp[aL] at Cd GV;rw[if_neg h,if_neg h];exact cY (by omega)
  have LW:cells (Ln r c s)=gK (fun i=>if i=15 then kH c.file 0 c.sign else if i=16 then kH c.file 1 c.sign else if i=17 then kH c.file 2 c.sign else if i=18 then kH c.file 3 (oD c) else if i=19 then kH c.file 4 (oD c) else yy (ud r c s) gH (yy (uc c s) (fun n=>⟨true,n⟩) (fun _=>dU)) i):=by
   rfl
  generalize yy (uc c s) (fun n=>(⟨true,n⟩:Cell)) (fun _=>dU)=g1 at*;refine W8 (ud r c s) D.bool gH g1 ?_ ?_ ?_ ?_ (fun p hp g done=>?_) ?_
  ·intro p q hp hq h;simp[ud] at hp hq;rcases hp with rfl|rfl|rfl|rfl|rfl|rfl|rfl|rfl<;>rcases hq with rfl|rfl|rfl|rfl|rfl|rfl|rfl|rfl<;>first|rfl|(simp at h)
  ·intro p hp;simp[ud] at hp;rcases hp with rfl|rfl|rfl|rfl|rfl|rfl|rfl|rfl<;>simp
  ·simp[ud,ky,hlen,←CQ,BV];rw[←LX];by_cases h:c.due=-1<;>simp[h,Td]
  ·simp
  ·have hr:0≤p.1∧p.1<20:=by
        simp[ud] at hp;rcases hp with rfl|rfl|rfl|rfl|rfl|rfl|rfl|rfl<;>simp
   have hk:p.1.toNat<20:=by omega
   simp[am9,PA,qo,Fg g hk];refine⟨_,aal _,?_⟩;simp[Fg g hk];exact hr
  simp;generalize yy (ud r c s) gH g1=g2 at*;have hho:(if c.holder<0 then D.int 0 else D.int c.holder)=D.int (oD c):=by
   unfold oD;split<;>rfl
  rw[hho];refine⟨_,Er _ _ _ (by omega),_,Er _ _ _ (by omega),_,Er _ _ _ (by omega),_,Er _ _ _ (by omega),_,Er _ _ _ (by omega),?_⟩;rw[LW];simp only[adD,an3,adF,adE];refine TK fun i hi=>?_;by_cases GA:i=15
  ·subst GA;simp
  by_cases GB:i=16
  ·subst GB;simp
  by_cases GC:i=17
  ·subst GC;simp
  by_cases GD:i=18
  ·subst GD;simp
  by_cases GF:i=19
  ·subst GF;simp
  simp[GA,GB,GC,GD,GF]
end Rm
namespace Rm
open Go Go.Proofs Cx
def H8 (n:Nat)(x:Int):Bool:=decide (x<0)||decide ((n:Int)≤x)
def lq (r:Realm)(a q:Int)(l:List Int):Bool:=
 !(decide (a<0)||decide ((r.orders.length:Int)≤a)||decide (q<0)||decide (22≤q)||decide (l.length≠5))&& !((List.range l.length).any fun k=>H8 r.orders.length (l.getD k 0))
theorem afr (x n:Int):ak T 151 [.int x,.ref (.int n)] (.bool (decide (x<0)||decide (n≤x))):=by
 refine .of_tree rfl (lA 23 (by kernel_rfl)) aoM ?_;by_cases h:x<0<;>simp[QA,h]
theorem Us (r:Realm)(a q:Int)(l:List Int)(hl:l.length≤100000):ak T 111 [bl r,.int a,.int q,ints l] (.bool (lq r a q l)):=by
 refine .of_tree rfl (lA 22 (by kernel_rfl)) aoN ?_;by_cases h1:a<0
 ·simp[uo,lq,h1]
 by_cases h2:(r.orders.length:Int)≤a
 ·simp[uo,lq,h1,h2]
 by_cases h3:q<0
 ·simp[uo,lq,h1,h2,h3]
 by_cases h4:22≤q
 ·simp[uo,lq,h1,h2,h3,h4]
 by_cases h5:(l.length:Int)=5
 ·have GH:l.length=5:=by omega
  simp[uo,h1,h2,h3,h4,GH];refine⟨_,ab3 l 151 [.ref (.int r.orders.length)] (fun k=>H8 r.orders.length (l.getD k 0)) (fun k hk=>by simpa [H8,hk] using afr l[k] r.orders.length) (by omega),?_⟩;simp only[lq,GH];simp[h1,h2,h3,h4]
 ·have GH:¬l.length=5:=by omega
  simp[uo,lq,h1,h2,h3,h4,GH];intro h;omega
theorem Lg {r:Realm}{a q:Int}{l:List Int}(h:lq r a q l=true):(0≤a∧a<r.orders.length)∧l.length=5∧(∀x,x∈l→0≤x∧x<r.orders.length)∧∀b:Int,0≤b→b<r.orders.length→lq r b q l=true:=by
 unfold lq at h ⊢;rw[aj] at h;obtain⟨h1,h2⟩:=h;simp at h1;refine⟨by omega,h1.2,fun x hx=>?_,fun b dJ bT=>?_⟩
 ·obtain⟨k,hk,rfl⟩:=mO hx;simp[H8] at h2;have:=h2 k hk;simp[hk] at this;omega
 ·rw[h2];simp;omega
def AF (r:Realm):Prop:=∀o,o∈r.orders→o.choices.length≤100000∧∀ch,ch∈o.choices→0≤ch.by_∧ch.by_<5
def vU (q:Int)(ch:Choice):Bool:=decide (ch.ask=q)&&decide (ch.by_≠0)
def kS (r:Realm)(a:Int):Order:=r.orders.getD a.toNat default
def fR (r:Realm)(a q:Int)(l:List Int):Int×Bool:=
 (match(kS r a).choices.find? (vU q) with|some ch=>l.getD ch.by_.toNat 0|none=>a,match(kS r a).choices.find? (vU q) with|some ch=>ch.whole|none=>false)
theorem SG (r:Realm)(ox:AF r)(a q:Int)(l:List Int)(hl:l.length≤100000)(hf:lq r a q l=true):
 ak T 112 [bl r,.int a,.int q,ints l] (.tup [.int (fR r a q l).1,.bool (fR r a q l).2])∧0≤(fR r a q l).1∧(fR r a q l).1<r.orders.length:=by
 obtain⟨ha,VC,hx,_⟩:=Lg hf;have yO:a.toNat<r.orders.length:=by omega
 obtain⟨aV,lx⟩:=ox _ (cT yO);obtain⟨o,ho⟩:∃o,o=r.orders[a.toNat]:=⟨_,rfl⟩
 rw[←ho] at aV lx;have Ml:kS r a=o:=by rw[ho];simp[kS,yO]
 unfold fR;rw[Ml];refine⟨?_,?_⟩
 ·refine .of_tree rfl (lA 26 (by kernel_rfl)) aoL ?_;simp[Qz];refine⟨_,Us r a q l hl,?_⟩;simp[hf,yO,←ho,ha];refine aS.scan o.choices.length (fun k=>vU q (o.choices.getD k default)=false) (fun k=>[.int 0,.bool false,.int k]) (fun _=>[]) ?_ (fun k hk hj au=>?_) (fun k hk hj au=>?_) (fun hj=>?_)
  ·simp
  ·have hw:=bC hk (by omega);have hn:¬(o.choices[k].ask=q∧¬o.choices[k].by_=0):=by simpa [vU,hk] using au
   simp[O1,DG,yO,←ho,hk,hw,hn]
  ·have rA:=BQ hk (by simpa [hk] using au) (fun j bG=>by have:=hj j bG;simpa [show j<o.choices.length by omega] using this);rw[rA];have hc:o.choices[k].ask=q∧¬o.choices[k].by_=0:=by simpa [vU,hk] using au
   have hb:=lx _ (cT hk);have rz:o.choices[k].by_.toNat<l.length:=by omega
   simp[O1,DG,yO,←ho,hk,hc,ints,rz];omega
  ·have rA:=Gu (l:=o.choices) (p:=vU q) (fun j bG=>by have:=hj j bG;simpa [bG] using this);rw[rA];simp[O1,DG,yO,←ho]
 ·cases rA:o.choices.find? (vU q) with
  |none=>exact ha
  |some ch=>
   have hb:=lx _ (uG rA);have rz:ch.by_.toNat<l.length:=by omega
   simp[rz];exact hx _ (cT rz)
theorem Oh:∀(N:Nat) (l:List Int),l.Nodup→(∀x,x∈l→0≤x∧x<(N:Int))→l.length≤N
 |0,l,hn,h=>by
  cases l with
  |nil=>simp
  |cons a l=>have:=h a (by simp);omega
 |N+1,l,hn,h=>by
  by_cases hm:(N:Int)∈l
  ·have h1:=Oh N (l.erase (N:Int)) (hn.erase _) (fun x hx=>by
    have db:=(hn.mem_erase_iff).mp hx;have:=h x db.2;have ay:=db.1;omega)
   rw[List.length_erase_of_mem hm] at h1;omega
  ·have h1:=Oh N l hn (fun x hx=>by
    have:=h x hx;have ay:x≠(N:Int):=fun e=>hm (e▸hx);omega)
   omega
def dh (l:List Int):Int:=l.getD (l.length-1) 0
def kq (r:Realm)(q:Int)(l:List Int):Nat→List Int→List Int×Int
 |0,p=>(p,0)
 |n+1,p=>
  if(fR r (dh p) q l).1=dh p then(p,0)
  else if(fR r (dh p) q l).2=false∨(hasB p (fR r (dh p) q l).1=true∧(kS r (fR r (dh p) q l).1).accepts=true) then(p++[(fR r (dh p) q l).1],0)
  else if hasB p (fR r (dh p) q l).1=true then(p++[(fR r (dh p) q l).1],12)
  else kq r q l n (p++[(fR r (dh p) q l).1])
theorem Nj (r:Realm)(q:Int)(l:List Int)(n:Nat)(p:List Int):kq r q l (n+1) p=
 if(fR r (dh p) q l).1=dh p then(p,0)
 else if(fR r (dh p) q l).2=false∨(hasB p (fR r (dh p) q l).1=true∧(kS r (fR r (dh p) q l).1).accepts=true) then(p++[(fR r (dh p) q l).1],0)
 else if hasB p (fR r (dh p) q l).1=true then(p++[(fR r (dh p) q l).1],12)
 else kq r q l n (p++[(fR r (dh p) q l).1]):=rfl
def iL (r:Realm)(a q:Int)(l:List Int):List Int×Int:=if lq r a q l=true∧l.getD 0 0=a then kq r q l r.orders.length [a] else([],1)
theorem acf (r:Realm)(ox:AF r)(hn:r.orders.length≤100000)(a q:Int)(l:List Int)(hl:l.length≤100000):ak T 70 [bl r,.int a,.int q,ints l] (.tup [ints (iL r a q l).1,.int (iL r a q l).2]):=by
 refine .of_tree rfl (lA 21 (by kernel_rfl)) aoK ?_;simp[Qy];refine⟨_,Us r a q l hl,?_⟩;cases hf:lq r a q l
 ·simp[iL,hf];rfl
 obtain⟨ha,VC,hx,yM⟩:=Lg hf;have h0:0<l.length:=by omega
 by_cases G9:l[0]=a
 ·have hE:iL r a q l=kq r q l r.orders.length [a]:=by unfold iL;rw[if_pos ⟨hf,by simp[h0,G9]⟩]
  rw[hE];simp[h0,G9,ints];refine aS.forLoop (α:=Nat×List Int) (fun s vr vo=>vr=[.list [],.int 0,.none]∧vo=[ints s.2]∧s.2.Nodup∧(∀x,x∈s.2→0≤x∧x<(r.orders.length:Int))∧s.2≠[]∧s.1+s.2.length=r.orders.length+1∧kq r q l s.1 s.2=kq r q l r.orders.length [a]) (fun s=>s.1) (r.orders.length,[a]) ?_ ?_
  ·simp[ints];exact ha
  ·rintro⟨n,p⟩ vr vo ⟨rfl,rfl,ba,br,ay,hlen,Cr⟩;simp only at*;have fa:p.length≤r.orders.length:=Oh _ p ba br;have aiN:0<p.length:=JO.mpr ay;obtain⟨m,rfl⟩:∃m,n=m+1:=⟨n-1,by omega⟩
   have af:p.length-1<p.length:=by omega
   have mi:dh p=p[p.length-1]:=by simp[dh,af]
   have vy:=br _ (cT af);rw[←mi] at vy;obtain⟨Lv,fP,fQ⟩:=SG r ox (dh p) q l hl (yM _ vy.1 vy.2);have L6:((p.length:Int)-1).toNat=p.length-1:=by omega
   have M2:IntKind.i64.wrap ((p.length:Int)-1)=(p.length:Int)-1:=cY (by omega);rw[←Cr,Nj];obtain⟨L,hL⟩:∃L,L=fR r (dh p) q l:=⟨_,rfl⟩
   rw[←hL] at Lv fP fQ ⊢;obtain⟨to,whole⟩:=L;simp only at Lv fP fQ;have MQ:to.toNat<r.orders.length:=by omega
   have Ml:kS r to=r.orders[to.toNat]:=by simp[kS,MQ]
   simp only[Ml];simp[am6,O0,M2,L6,af,←mi,ints];refine⟨by omega,_,Lv,?_⟩;by_cases h1:to=dh p
   ·simp[h1]
   simp[h1];refine⟨_,xd p to (by omega),by omega,?_⟩;cases whole
   ·simp
   cases h2:hasB p to
   ·have cE:to∉p:=fun hm=>by
     have:hasB p to=true:=by simp[hasB,hm]
     rw[h2] at this;cases this
    simp[h2];refine⟨m,by omega,p++[to],by simp,?_,?_,by simp,by simp;omega,rfl⟩
    ·exact AL.mpr ⟨ba,by simp,fun x hx y hy=>by simp at hy;subst hy;exact fun e=>cE (e▸hx)⟩
    ·intro x hx;rcases dy.mp hx with h|h
     ·exact br x h
     ·simp at h;subst h;exact⟨fP,fQ⟩
   ·cases h3:r.orders[to.toNat].accepts<;>simp[h2,h3,MQ]<;>omega
 ·have hE:iL r a q l=([],1):=by unfold iL;rw[if_neg (by simp[h0,G9])]
  rw[hE];simp[h0,G9];rfl
end Rm
namespace Rm
open Go Go.Proofs Cx
def nG (f:File)(i:Int):Sign:=f.signs.getD i.toNat default
def lK (r:Realm)(aw:Int)(c:Case):List Int:=[aw,gk r (nG c.file c.sign).city,gk r c.file.bill.pay,gk r c.file.bill.city,gk r (r.firms.getD (nG c.file c.sign).who.toNat default).city]
def pI (r:Realm)(aw:Int)(c:Case):Prop:=(nG c.file c.sign).who<0∨(r.firms.length:Int)≤(nG c.file c.sign).who∨aw<0∨(r.orders.length:Int)≤aw
instance (r:Realm) (aw:Int) (c:Case):Decidable (pI r aw c):=by unfold pI;infer_instance
def iO (r:Realm)(aw:Int)(c:Case):List Int:=if pI r aw c then[] else if hasB (lK r aw c) (-1)=true then[] else lK r aw c
@[simp] theorem atb (r:Realm)(x:Int):xr (bl r) x=gk r x:=by
  unfold xr gk aL;by_cases h:0≤x∧x<(r.cities.length:Int)
  ·have hx:x.toNat<r.cities.length:=by omega
   rw[if_pos (by simpa using h),if_pos (by simpa using h)];simp[hx]
  ·rw[if_neg (by simpa using h),if_neg (by simpa using h)]
theorem Zh (r:Realm)(aw:Int)(c:Case)(h1:c.sign.toNat<c.file.signs.length):Oj [bl r,.int aw,dI c]=ints (iO r aw c):=by
 have hs:nG c.file c.sign=c.file.signs[c.sign.toNat]:=by simp[nG,h1]
 unfold Oj iO;simp[h1];by_cases hb:pI r aw c
 ·rw[if_pos (by simpa [pI,hs] using hb),if_pos hb];rfl
 ·rw[if_neg (by simpa [pI,hs] using hb),if_neg hb];have ajy:(nG c.file c.sign).who.toNat<r.firms.length:=by unfold pI at hb;omega
  have Wi:c.file.signs[c.sign.toNat].who.toNat<r.firms.length:=by rw[←hs];exact ajy
  have jP:lK r aw c=[aw,gk r c.file.signs[c.sign.toNat].city,gk r c.file.bill.pay,gk r c.file.bill.city,gk r r.firms[c.file.signs[c.sign.toNat].who.toNat].city]:=by
   simp[lK,hs,Wi]
  have cV:∀l:List Int,hasB l (-1)=true↔-1∈l:=fun l=>by simp[hasB]
  rw[jP];simp[Wi];split
  ·rename_i h;rw[if_pos ((cV _).mpr (by simpa using h))];rfl
  ·rename_i h;rw[if_neg (fun h'=>h (by simpa using(cV _).mp h'))]
theorem Zj (r:Realm)(aw:Int)(c:Case)(h1:0≤c.sign∧c.sign<c.file.signs.length):ak T 40 [bl r,.int aw,dI c] (ints (iO r aw c)):=by
 have cB:c.sign.toNat<c.file.signs.length:=by omega
 rw[←Zh r aw c cB];have hs:nG c.file c.sign=c.file.signs[c.sign.toNat]:=by simp[nG,cB]
 refine ak.of_nsl rfl aoA aoB ?_;rw[Zh r aw c cB];by_cases hb:pI r aw c
 ·refine .inr ⟨by simp[iO,hb];rfl,?_⟩;have eh:=hb;simp[pI,hs] at eh;simp[Jo,h1,cB]
  intros;omega
 have pX:iO r aw c=if hasB (lK r aw c) (-1)=true then[] else lK r aw c:=by unfold iO;rw[if_neg hb]
 have eh:=hb;simp[pI,hs] at eh;have hw:c.file.signs[c.sign.toNat].who.toNat<r.firms.length:=by omega
 have hC:=xd (lK r aw c) (-1) (by simp[lK]);cases hh:hasB (lK r aw c) (-1)<;>rw[hh] at hC<;>simp[lK,ints,hs,hw] at hC
 ·refine .inl ⟨(lK r aw c).map .int,by simp[lK],by rw[pX,hh];rfl,?_⟩;simp[Qq,h1,cB,hw];rw[if_neg (by omega)];refine⟨_,pk r _,_,pk r _,_,pk r _,by omega,_,pk r _,_,by simpa using hC,?_⟩;simp[lK,hs,hw]
 ·refine .inr ⟨by rw[pX,hh];rfl,?_⟩;simp[Jo,h1,cB,hw]
  intros
  refine⟨_,pk r _,_,pk r _,_,pk r _,by omega,_,pk r _,_,by simpa using hC,?_⟩;simp
end Rm
namespace Rm
open Go Go.Proofs Cx
structure Right (r:Realm):Prop where
 by_:AF r
 len:r.orders.length≤100000
 ok:∀o,o∈r.orders→o.OK∧o.rules.length≤100000
structure FewS (f:File):Prop where
 signs:f.signs.length≤1000
 alters:f.alters.length≤1000
 acts:f.acts.length≤1000
 facts:f.facts.length≤1000
theorem abc {α:Type}(p:α→Bool)(l:List α):(l.takeWhile p).length≤l.length:=by
 obtain⟨m,h1,h2,_⟩:=Jy p l;rw[h2,dN];omega
theorem FewS.at_ {f:File}(h:FewS f)(day:Int):FewS (dX f day):=
 ⟨ij (abc _ _) h.1,ij (sH _ _) h.2,ij (abc _ _) h.3,ij (sH _ _) h.4⟩
def dw (c:Case):Case:={c with file:=dX c.file c.day}
@[simp] theorem as2 (x:File)(a0 a1 a2 a3 a4 a5 a6 a7 a8 a9 qQ qT a12 qU qV uM uN uO uP:D)(s h d u y:Int):j9 24 (D.agg (eF [a0,a1,a2,a3,a4,a5,a6,a7,a8,a9,qQ,qT,a12,qU,qV,uM,uN,uO,uP,.int s,.int h,.int d,.int u,.int y] 0 [.int x.bill.drawer,.int x.bill.drawee,.int x.bill.payee,.int x.bill.sum,.int x.bill.currency,.int x.bill.tenor.kind,.int x.bill.tenor.n,.int x.bill.tenor.unit,.int x.bill.day,.int x.bill.city,.int x.bill.pay,.int x.bill.need,.int x.bill.rate,.int x.bill.flags,.int x.bill.parts,signs x.signs,alters x.alters,acts x.acts,facts x.facts]))=dI ⟨x,s,h,d,u,y⟩:=_root_.id rfl
theorem Tj (r:Realm)(c:Case)(hf:FewS c.file):ak T 39 [bl r,dI c] (.tup [dI (dw c),cells (gp r (dw c))]):=by
 refine .of_tree rfl (lA 7 (by kernel_rfl)) aoz ?_;simp[Qp];have h1:=hf.1;have h2:=hf.2;have h3:=hf.3;have h4:=hf.4;refine⟨_,PO c.file c.day (by omega) (by omega) (by omega) (by omega),?_⟩;have GZ:=hf.at_ c.day;have h5:=GZ.4;have h6:=GZ.2;simp;exact⟨anq r (dw c) (by show(dX c.file c.day).facts.length≤_;omega) (by show(dX c.file c.day).alters.length≤_;omega),(congrArg (j9 24) (ami (dw c) _ _ _ _ _ _ _ _ _ _ _ _ _ _ _ _ _ _ _ _ _ _ _ _)).trans (acE (dw c))⟩
theorem abP {r:Realm}{c:Case}(h:gp r c≠[]):0≤c.sign∧c.sign<c.file.signs.length:=by
 unfold gp at h;split at h
 ·rename_i hh;have h1:=hh.1;unfold sP at h1;simp[aL] at h1;omega
 ·exact absurd rfl h
theorem WM (r:Realm)(ox:AF r)(q:Int)(l:List Int)(hl:l.length≤100000)(yM:∀b:Int,0≤b→b<r.orders.length→lq r b q l=true):∀(n:Nat) (p:List Int),p≠[]→(∀x,x∈p→0≤x∧x<(r.orders.length:Int))→
 (kq r q l n p).1≠[]∧∀x,x∈(kq r q l n p).1→0≤x∧x<(r.orders.length:Int)
 |0,p,ay,hp=>⟨ay,hp⟩
 |n+1,p,ay,hp=>by
  have af:p.length-1<p.length:=by have:=JO.mpr ay;omega
  have mi:dh p=p[p.length-1]:=by simp[dh,af]
  have vy:=hp _ (cT af);rw[←mi] at vy;obtain⟨_,ht⟩:=SG r ox (dh p) q l hl (yM _ vy.1 vy.2)
  have aR:∀x,x∈p++[(fR r (dh p) q l).1]→0≤x∧x<(r.orders.length:Int):=fun x hx=>by
   rcases dy.mp hx with h|h
   ·exact hp x h
   ·simp at h;subst h;exact ht
  rw[Nj];split
  ·exact⟨ay,hp⟩
  split
  ·exact⟨by simp,aR⟩
  split
  ·exact⟨by simp,aR⟩
  ·exact WM r ox q l hl yM n _ (by simp) aR
theorem WK {r:Realm}(hr:Right r){a q:Int}{l:List Int}(hl:l.length≤100000)(h:(iL r a q l).2=0):(iL r a q l).1≠[]∧0≤dh (iL r a q l).1∧dh (iL r a q l).1<r.orders.length:=by
 unfold iL at h ⊢;split at h
 ·rename_i hh;rw[if_pos hh];obtain⟨ha,VC,hx,yM⟩:=Lg hh.1;obtain⟨h1,h2⟩:=WM r hr.by_ q l hl yM r.orders.length [a] (by simp) (fun x hx=>by simp at hx;subst hx;exact ha);refine⟨h1,?_⟩;have af:(kq r q l r.orders.length [a]).1.length-1<(kq r q l r.orders.length [a]).1.length:=by have:=JO.mpr h1;omega
  have mi:dh (kq r q l r.orders.length [a]).1=(kq r q l r.orders.length [a]).1[(kq r q l r.orders.length [a]).1.length-1]:=by simp[dh,af]
  rw[mi];exact h2 _ (cT af)
 ·cases h
theorem WN (r:Realm)(q:Int)(l:List Int):∀(n:Nat) (p:List Int),(kq r q l n p).1.length≤p.length+n
 |0,p=>by simp[kq]
 |n+1,p=>by
  rw[Nj];split
  ·simp
  split
  ·simp
  split
  ·simp
  ·have:=WN r q l n (p++[(fR r (dh p) q l).1]);simp at this;omega
theorem WL (r:Realm)(a q:Int)(l:List Int):(iL r a q l).1.length≤1+r.orders.length:=by
 unfold iL;split
 ·exact WN r q l _ [a]
 ·simp
@[simp] theorem awS (a b c d e x:D):eF [a,b,c,d,e] 2 [x]=[a,b,x,d,e]:=_root_.id rfl
@[simp] theorem awT (a b c d e x:D):eF [a,b,c,d,e] 3 [x]=[a,b,c,x,e]:=_root_.id rfl
@[simp] theorem awU (a b c d e x:D):eF [a,b,c,d,e] 4 [x]=[a,b,c,d,x]:=_root_.id rfl
def zq:Said:=⟨dU,-1,[],1⟩
def eI (r:Realm)(aw q:Int)(c:Case):Said×List Cell:=
 if gp r (dw c)=[] then(zq,[]) else if(py q).2=false then(zq,[]) else if iO r aw (dw c)=[] then(zq,[]) else
    (⟨dU,if(iL r aw q (iO r aw (dw c))).2=0 then dh (iL r aw q (iO r aw (dw c))).1 else-1,(iL r aw q (iO r aw (dw c))).1,(iL r aw q (iO r aw (dw c))).2⟩,gp r (dw c))
theorem Zi (r:Realm)(aw:Int)(c:Case):(iO r aw c).length≤5:=by
 unfold iO;split
 ·simp
 split<;>simp[lK]
theorem Ka (r:Realm)(hr:Right r)(aw q:Int)(c:Case)(hf:FewS c.file):ak T 33 [bl r,.int aw,.int q,dI c] (.tup [jM (eI r aw q c).1,cells (eI r aw q c).2]):=by
 refine .of_tree rfl (lA 6 (by kernel_rfl)) aoy ?_;simp[Qo];refine⟨_,Tj r c hf,?_⟩;by_cases hv:gp r (dw c)=[]
 ·simp[hv,eI];exact⟨rfl,rfl⟩
 simp[hv,eI];refine⟨_,Oc q,?_⟩;cases hq:(py q).2
 ·simp[hq];exact⟨rfl,rfl⟩
 simp[hq];refine⟨_,Zj r aw (dw c) (abP hv),?_⟩;by_cases hp:iO r aw (dw c)=[]
 ·simp[hp];exact⟨rfl,rfl⟩
 have fa:=Zi r aw (dw c);have ay:ints (iO r aw (dw c))≠.list []:=fun e=>hp (by simpa [ints] using e);simp[hp];generalize iO r aw (dw c)=l at*;refine⟨_,acf r hr.by_ hr.len aw q l (by omega),?_⟩;have hlen:=WL r aw q l;have Cr:=WK hr (a:=aw) (q:=q) (l:=l) (by omega);have Mq:=hr.len;generalize iL r aw q l=L at*;obtain⟨path,err⟩:=L;simp only at*;by_cases he:err=0
 ·obtain⟨h1,h2⟩:=Cr he;have aiN:=JO.mpr h1;have M2:IntKind.i64.wrap ((path.length:Int)-1)=(path.length:Int)-1:=cY (by omega);have L6:((path.length:Int)-1).toNat=path.length-1:=by omega
  have af:path.length-1<path.length:=by omega
  have mi:dh path=path[path.length-1]:=by simp[dh,af]
  simp[he,M2,L6,af,←mi];exact⟨by omega,rfl⟩
 ·simp[he];rfl
def jK (r:Realm)(aw q:Int)(c:Case):Said:=
 if(eI r aw q c).1.order=-1 then(eI r aw q c).1
 else⟨(xo (kS r (eI r aw q c).1.order) q (eI r aw q c).2).1,(eI r aw q c).1.order,(eI r aw q c).1.path,(xo (kS r (eI r aw q c).1.order) q (eI r aw q c).2).2⟩
theorem Tg {r:Realm}(hr:Right r)(aw q:Int)(c:Case):(eI r aw q c).1.order=-1∨(0≤(eI r aw q c).1.order∧(eI r aw q c).1.order<r.orders.length):=by
 unfold eI;split
 ·exact .inl rfl
 split
 ·exact .inl rfl
 split
 ·exact .inl rfl
 ·have fa:=Zi r aw (dw c);have Cr:=WK hr (a:=aw) (q:=q) (l:=iO r aw (dw c)) (by omega);show(if _ then _ else _)=_∨_;split
  ·rename_i h;exact .inr (Cr h).2
  ·exact .inl rfl
theorem E7 (r:Realm)(hr:Right r)(aw q:Int)(c:Case)(hf:FewS c.file):ak T 8 [bl r,.int aw,.int q,dI c] (jM (jK r aw q c)):=by
 refine .of_tree rfl (lA 5 (by kernel_rfl)) aos ?_;simp[Qi];refine⟨_,Ka r hr aw q c hf,?_⟩;have ho:=Tg hr aw q c;unfold jK;generalize eI r aw q c=S at*;obtain⟨s,cs⟩:=S;simp only at*;by_cases h:s.order=-1
 ·obtain⟨⟨kn,n⟩,o,pth,e⟩:=s;simp only at h;subst h;simp;rfl
 ·have h1:0≤s.order∧s.order<r.orders.length:=by omega
  have h2:s.order.toNat<r.orders.length:=by omega
  have h3:kS r s.order=r.orders[s.order.toNat]:=by simp[kS,h2]
  obtain⟨au,hlen⟩:=hr.ok _ (cT h2);simp[h,h1,h2,h3];refine⟨_,ame _ q cs au (by omega),?_⟩;simp;rfl
def qZ (r:Realm)(aw q:Int)(f:File)(day:Int):Said:=jK r aw q ⟨{f with facts:=[]},0,-1,-1,-1,day⟩
theorem acS (r:Realm)(hr:Right r)(aw q:Int)(f:File)(day:Int)(hf:FewS f):ak T 10 [bl r,.int aw,.int q,ga f,.int day] (jM (qZ r aw q f day)):=by
 refine .of_tree rfl (lA 45 (by kernel_rfl)) aot ?_;simp[Qj];refine⟨jM (qZ r aw q f day),E7 r hr aw q ⟨{f with facts:=[]},0,-1,-1,-1,day⟩ ⟨hf.1,hf.2,hf.3,by simp⟩,?_⟩;simp
 try rfl
def R0 (s:Said):Int:=if s.err≠0 then 0 else if s.cell.known=false then 2 else if s.cell.n≠0 then 1 else 0
theorem J9 (s:Said):ak T 13 [jM s] (.int (R0 s)):=by
 refine .of_tree rfl (lA 38 (by kernel_rfl)) aox ?_;unfold R0;by_cases h1:s.err=0<;>cases h2:s.cell.known<;>by_cases h3:s.cell.n=0<;>simp[Qn,h1,h2,h3]
def qm (s:Said):Int:=if s.err≠0∨s.cell.known=false then-1 else s.cell.n
theorem Ti (s:Said):ak T 15 [jM s] (.int (qm s)):=by
 refine .of_tree rfl (lA 39 (by kernel_rfl)) aov ?_;unfold qm;by_cases h1:s.err=0<;>cases h2:s.cell.known<;>simp[Ql,h1,h2]
end Rm
namespace Rm
open Go Go.Proofs Cx
end Rm
namespace Rm
open Go Go.Proofs Cx
theorem Hw (r:Realm)(c:Int):ak T 85 [bl r,.int c] (.bool (aL c r.cities.length)):=by
 refine .of_tree rfl (lA 65 (by kernel_rfl)) apW ?_;by_cases h1:0≤c<;>by_cases h2:c<r.cities.length<;>simp[RK,h1,h2,aL]
def gM (n:Int):Bool:=decide (0≤n)&&decide (n≤100000)
theorem CZ (n:Int):ak T 86 [.int n] (.bool (gM n)):=by
 refine .of_tree rfl (lA 66 (by kernel_rfl)) apX ?_;by_cases h1:0≤n<;>by_cases h2:n≤100000<;>simp[RL,h1,h2,gM]
theorem EL (n:Int):ak T 166 [.int n] (.bool (gM n)):=by
 refine .of_tree rfl (lA 71 (by kernel_rfl)) aoJ ?_;by_cases h1:0≤n<;>by_cases h2:n≤100000<;>simp[Qx,h1,h2,gM]
def Jb (t:Tenor):Bool:=decide (t.kind=0)||decide (t.kind=1)
theorem JZ (t:Tenor):ak T 87 [rj t] (.bool (Jb t)):=by
 refine .of_tree rfl (lA 67 (by kernel_rfl)) apV ?_;by_cases h1:t.kind=0<;>simp[RJ,h1,Jb]
theorem Xy (y m d:Int):∃n:Int,ak T 216 [.int y,.int m,.int d] (.int n):=by
 by_cases h:m<3
 ·refine⟨?w,?h⟩
  case h=>
   refine ak.of_tree (d:=.int ?w) rfl Tq aa6 ?_;simp[Js,h];exact rfl
 ·refine⟨?v,?g⟩
  case g=>
   refine ak.of_tree (d:=.int ?v) rfl Tq aa6 ?_;simp[Js,h];exact rfl
def De (y m d:Int):Int:=(Xy y m d).choose
theorem HP (y m d:Int):ak T 216 [.int y,.int m,.int d] (.int (De y m d)):=(Xy y m d).choose_spec
def zk (y m:Int):Int:=if m=12 then 31 else IntKind.i64.wrap (De y (IntKind.i64.wrap (m+1)) 1-De y m 1)
theorem HA (y m:Int):ak T 203 [.int y,.int m] (.int (zk y m)):=by
 refine .of_tree rfl (lA 73 (by kernel_rfl)) aoH ?_;unfold zk;by_cases h:m=12
 ·simp[Jr,h]
 ·simp[Jr,h];refine⟨_,HP _ _ _,_,HP _ _ _,?_⟩;simp
theorem ab5 (y m d:Int):∃n e:Int,ak T 202 [.int y,.int m,.int d] (.tup [.int n,.int e])∧(e=0→0≤n∧n≤100000):=by
 by_cases h0:(((2000≤y∧y≤2300)∧1≤m)∧m≤12)∧1≤d
 ·by_cases h2:d≤zk y m
  ·cases h1:gM (De y m d)
   ·refine⟨0,3,.of_tree rfl E9 Jq ?_,by simp⟩;simp[Au];rw[if_pos h0];refine⟨_,HA y m,?_⟩;simp[h0,h2];refine⟨_,HP _ _ _,_,EL _,?_⟩;simp[h1]
   ·refine⟨De y m d,0,.of_tree rfl E9 Jq ?_,fun _=>by simpa [gM] using h1⟩;simp[Au];rw[if_pos h0];exact⟨_,HA y m,⟨h0,h2⟩,_,HP _ _ _,_,EL _,h1,rfl⟩
  ·refine⟨0,3,.of_tree rfl E9 Jq ?_,by simp⟩;simp[Au];rw[if_pos h0];refine⟨_,HA y m,?_⟩;simp[h0,h2]
 ·refine⟨0,3,.of_tree rfl E9 Jq ?_,by simp⟩;simp[Au];rw[if_neg h0];intro a1 a2 a3 a4 a5;exact absurd ⟨⟨⟨⟨a1,a2⟩,a3⟩,a4⟩,a5⟩ h0
theorem acq (r:Realm)(fr to:Int)(hl:r.usances.length≤100000):∃n e:Int,ak T 99 [bl r,.int fr,.int to] (.tup [.int n,.int e])∧(e=0→∃u,u∈r.usances∧n=u.days)∧(e=0↔∃u,u∈r.usances∧u.fr=fr∧u.to=to):=by
 let p:Usance→Bool:=fun u=>decide (u.fr=fr)&&decide (u.to=to)
 refine⟨match r.usances.find? p with|some u=>u.days|none=>0,match r.usances.find? p with|some u=>0|none=>4,?_,?_⟩
 ·refine .of_tree rfl (lA 76 (by kernel_rfl)) aps ?_;simp[Rg];refine aS.scan r.usances.length (fun k=>p (r.usances.getD k default)=false) (fun k=>[.int 0,.int 0,.int k]) (fun _=>[]) ?_ (fun k hk hj au=>?_) (fun k hk hj au=>?_) (fun hj=>?_)
  ·simp
  ·have hw:=bC hk (by omega);have hn:¬(r.usances[k].fr=fr∧r.usances[k].to=to):=by simpa [p,hk] using au
   simp[Pl,D0,hk,hw,hn]
  ·have rA:=BQ hk (by simpa [hk] using au) (fun j bG=>by have:=hj j bG;simpa [show j<r.usances.length by omega] using this);have hc:r.usances[k].fr=fr∧r.usances[k].to=to:=by simpa [p,hk] using au
   rw[rA];simp[Pl,D0,hk,hc]
  ·have rA:=Gu (l:=r.usances) (p:=p) (fun j bG=>by have:=hj j bG;simpa [bG] using this);rw[rA];simp[Pl,D0]
 ·cases h:r.usances.find? p with
  |none=>
   refine⟨fun h=>(by cases h),fun h=>(by cases h),fun⟨u,hu,h1,h2⟩=>?_⟩;have:=xj.1 h u hu;simp[p,h1,h2] at this
  |some u=>
   have h2:u.fr=fr∧u.to=to:=by simpa [p] using JJ h
   exact⟨fun _=>⟨u,uG h,rfl⟩,fun _=>⟨u,uG h,h2⟩,fun _=>rfl⟩
theorem acp (r:Realm)(fr to:Int)(hl:r.usances.length≤100000):∃n e:Int,ak T 99 [bl r,.int fr,.int to] (.tup [.int n,.int e])∧(e=0→∃u,u∈r.usances∧n=u.days):=by
 obtain⟨n,e,h1,h2,_⟩:=acq r fr to hl;exact⟨n,e,h1,h2⟩
end Rm
namespace Rm
open Go Go.Proofs Cx
theorem TO (R Y:Int)(hR:0≤R∧R<146097)(h1:365*Y≤R-R/1460+R/36524-R/146096)(h2:R-R/1460+R/36524-R/146096<365*Y+365):0≤R-(365*Y+Y/4-Y/100)∧R-(365*Y+Y/4-Y/100)≤500:=by
 have k0:R/36524≤R/1460:=by omega
 have k1:Y/4≤R/1460:=by omega
 have hY:0≤Y:=by omega
 have hc:R/36524=0∨R/36524=1∨R/36524=2∨R/36524=3∨R/36524=4:=by omega
 have k2:25*(R/36524)≤R/1460:=by omega
 refine⟨?_,?_⟩
 ·rcases Int.lt_or_le Y (100*(R/36524)) with hy|hy
  ·have k3:Y/4≤25*(R/36524)-1:=by omega
   have k4:R/36524-1≤Y/100:=by omega
   omega
  ·have k3:R/36524≤Y/100:=by omega
   omega
 ·omega
theorem TP (n:Int)(h:0≤n∧n≤100400):ak T 201 [.int n] (.tup [.int (eV n).1,.int (eV n).2.1,.int (eV n).2.2]):=by
 refine .of_tree rfl (lA 72 (by kernel_rfl)) aoE ?_;have w:∀x:Int,-1000000000≤x→x≤1000000000→IntKind.i64.wrap x=x:=fun x a b=>cY (by omega);have t:∀x y:Int,0≤x→x.tdiv y=x/y:=fun x y hx=>SD hx;have u:∀x y:Int,0≤x→x.tmod y=x%y:=fun x y hx=>acd hx;simp[Qt];unfold eV;simp only[];rw[w (n+730425) (by omega) (by omega),u (n+730425) 146097 (by omega),t (n+730425) 146097 (by omega)];have hR:0≤(n+730425)%146097∧(n+730425)%146097<146097:=by omega
 have hE:0≤(n+730425)/146097∧(n+730425)/146097<100:=by omega
 generalize (n+730425)%146097=R at*;generalize (n+730425)/146097=e at*;rw[t R 1460 (by omega),t R 36524 (by omega),t R 146096 (by omega),w (R/1460) (by omega) (by omega),w (R-R/1460) (by omega) (by omega),w (R/36524) (by omega) (by omega),w (R-R/1460+R/36524) (by omega) (by omega),w (R/146096) (by omega) (by omega),w (R-R/1460+R/36524-R/146096) (by omega) (by omega),t (R-R/1460+R/36524-R/146096) 365 (by omega)];have hY:0≤(R-R/1460+R/36524-R/146096)/365∧(R-R/1460+R/36524-R/146096)/365<400:=by omega
 have hD:0≤R-(365*((R-R/1460+R/36524-R/146096)/365)+(R-R/1460+R/36524-R/146096)/365/4-(R-R/1460+R/36524-R/146096)/365/100)∧R-(365*((R-R/1460+R/36524-R/146096)/365)+(R-R/1460+R/36524-R/146096)/365/4-(R-R/1460+R/36524-R/146096)/365/100)≤500:=by
  exact TO R _ hR (by omega) (by omega)
 generalize (R-R/1460+R/36524-R/146096)/365=Y at*;rw[w Y (by omega) (by omega),w (365*Y) (by omega) (by omega),t Y 4 (by omega),t Y 100 (by omega),w (Y/4) (by omega) (by omega),w (Y/100) (by omega) (by omega),w (365*Y+Y/4) (by omega) (by omega),w (365*Y+Y/4-Y/100) (by omega) (by omega),w (R-(365*Y+Y/4-Y/100)) (by omega) (by omega)];generalize R-(365*Y+Y/4-Y/100)=D at*;rw[w (5*D) (by omega) (by omega),w (5*D+2) (by omega) (by omega),t (5*D+2) 153 (by omega)];have hM:0≤(5*D+2)/153∧(5*D+2)/153≤20:=by omega
 generalize (5*D+2)/153=M at*;rw[w M (by omega) (by omega),w (M+3) (by omega) (by omega),w (M+3-12) (by omega) (by omega),w e (by omega) (by omega),w (400*e) (by omega) (by omega),w (Y+400*e) (by omega) (by omega),w (Y+400*e+1) (by omega) (by omega)];rw[w (153*M) (by omega) (by omega),w (153*M+2) (by omega) (by omega),t (153*M+2) 5 (by omega),w ((153*M+2)/5) (by omega) (by omega),w (D-(153*M+2)/5) (by omega) (by omega),w (D-(153*M+2)/5+1) (by omega) (by omega)];refine⟨?_,?_,rfl⟩
 ·generalize (if 12<M+3 then M+3-12 else M+3)=m;split<;>rfl
 ·split<;>rfl
theorem abY (d n:Int):∃x e:Int,ak T 165 [.int d,.int n] (.tup [.int x,.int e])∧(e=0→0≤x∧x≤100000):=by
 by_cases h0:gM d=true∧-5000≤n∧n≤5000
 ·have hd:0≤d∧d≤100400:=by have:=h0.1;simp[gM] at this;omega
  obtain⟨A,hA⟩:∃A,A=IntKind.i64.wrap (IntKind.i64.wrap (IntKind.i64.wrap (IntKind.i64.wrap (12*(eV d).1)+(eV d).2.1)-1)+n):=⟨_,rfl⟩
  obtain⟨Y,hY⟩:∃Y,Y=IntKind.i64.wrap (A.tdiv 12):=⟨_,rfl⟩
  obtain⟨M,hM⟩:∃M,M=IntKind.i64.wrap (A.tmod 12+1):=⟨_,rfl⟩
  obtain⟨x,e,hD,hb⟩:=ab5 Y M (if zk Y M<(eV d).2.2 then zk Y M else(eV d).2.2);refine⟨x,e,.of_tree rfl Tp aa5 ?_,hb⟩;have n1:¬n< -5000:=by omega
  have n2:¬5000<n:=by omega
  simp[Jp,n1,n2];refine⟨_,EL d,?_⟩;simp[h0.1];refine⟨_,TP d hd,?_⟩;simp[←hA,←hY,←hM];refine⟨_,HA Y M,?_⟩;by_cases hl:zk Y M<(eV d).2.2
  ·simp only[if_pos hl] at hD;simp[hl];refine⟨_,hD,?_⟩;simp
  ·simp only[if_neg hl] at hD;simp[hl];refine⟨_,hD,?_⟩;simp
 ·refine⟨0,3,.of_tree rfl Tp aa5 ?_,by simp⟩;simp[Jp];refine⟨_,EL d,?_⟩;simp;intro a b c;exact absurd ⟨a,b,c⟩ h0
end Rm
namespace Rm
open Go Go.Proofs Cx
theorem LA (l:List Int)(x:Int):hasB l x=l.contains x:=by
 rw[sC];simp[hasB]
def ED (c:City):Prop:=c.rest.length≤100000∧c.feasts.length≤100000∧c.shut.length≤100000
theorem adU (n:Int)(h:0≤n∧n≤100400):(0≤(eV n).2.1∧(eV n).2.1≤30)∧-1000≤(eV n).2.2∧(eV n).2.2≤1000:=by
 unfold eV;simp only[];have hR:0≤(n+730425)%146097∧(n+730425)%146097<146097:=by omega
 generalize (n+730425)%146097=R at*;have hD:=TO R ((R-R/1460+R/36524-R/146096)/365) hR (by omega) (by omega);generalize (R-R/1460+R/36524-R/146096)/365=Y at*;generalize R-(365*Y+Y/4-Y/100)=D at*;have hM:0≤(5*D+2)/153∧(5*D+2)/153≤20:=by omega
 generalize (5*D+2)/153=M at*;refine⟨?_,by omega,by omega⟩;split<;>omega
theorem amd (c:City)(hc:ED c)(n:Int)(h:0≤n∧n≤100400):ak T 205 [fZ c,.int n] (.bool (wq c.rest c.feasts c.shut n)):=by
 refine .of_tree rfl (lA 81 (by kernel_rfl)) aoI ?_;simp[Qw];refine⟨_,TP n h,?_⟩;have w5:IntKind.i64.wrap (n+5)=n+5:=cY (by omega);have m7:(n+5).tmod 7=(n+5)%7:=acd (by omega);obtain⟨h1,h2,h3⟩:=hc;simp[w5,m7];refine⟨_,xd c.rest ((n+5)%7) (by omega),?_⟩;unfold wq;rw[←LA];cases hr:hasB c.rest ((n+5)%7)
 ·obtain⟨dJ,bT⟩:=adU n h;have wm:IntKind.i64.wrap (100*(eV n).2.1)=100*(eV n).2.1:=cY (by omega);have wd:IntKind.i64.wrap (100*(eV n).2.1+(eV n).2.2)=100*(eV n).2.1+(eV n).2.2:=cY (by omega);simp[hr,wm,wd];refine⟨_,xd c.feasts _ (by omega),?_⟩;have e1:=LA c.feasts (100*(eV n).2.1+(eV n).2.2);have e2:=LA c.shut n;simp at e1 e2;cases hf:hasB c.feasts (100*(eV n).2.1+(eV n).2.2)
  ·simp[hf,←e1,←e2];exact⟨_,xd c.shut n (by omega),rfl⟩
  ·simp[hf,←e1]
 ·simp[hr]
end Rm
namespace Rm
open Go Go.Proofs Cx
def eJ (c:City)(a:Int)(k:Nat):List Int:=((List.range k).map fun(i:Nat)=>a+i).filter (wq c.rest c.feasts c.shut)
theorem TW (c:City)(a:Int)(k:Nat):eJ c a (k+1)=eJ c a k++if wq c.rest c.feasts c.shut (a+k) then[a+k] else[]:=by
 unfold eJ;rw[List.range_succ,nO,JI]
 congr 1
 cases h:wq c.rest c.feasts c.shut (a+k)<;>simp[h]
theorem aee (c:City)(a:Int){k n:Nat}(h:k≤n):∃r,eJ c a n=eJ c a k++r:=by
 induction n with
 |zero=>obtain rfl:k=0:=by omega
        exact⟨[],by simp⟩
 |succ n ih=>
  by_cases e:k=n+1
  ·subst e;exact⟨[],by simp⟩
  ·obtain⟨r,hr⟩:=ih (by omega);exact⟨r++_,by rw[TW,hr,pC]⟩
def pS (d:Int):D:=.tup [.int d]
theorem aef (c:City)(a b:Int):TY [.ref (.int a),.ref (.int b),.ref (fZ c)]=(eJ c a (b-a+1).toNat).map pS:=by
 have hi:∀l:List Int,vS (ints l)=l:=fun l=>by
  show(l.map D.int).map D.i=l;rw[EX];exact List.map_id l
 show(TX (vS (ints c.rest)) (vS (ints c.feasts)) (vS (ints c.shut)) a b).map _=_;rw[hi,hi,hi];rfl
theorem aec (c:City)(hc:ED c)(a b:Int)(ha:0≤a)(hb:b≤100400)(yL:a≤100400):ak T 204 [.ref (.int a),.ref (.int b),.ref (fZ c)] (.list ((eJ c a (b-a+1).toNat).map pS)):=by
 have tD:=aef c a b;rw[←tD];obtain⟨N,hN⟩:∃N,N=(b-a+1).toNat:=⟨_,rfl⟩
 refine ak.of_it (pc:=(ae q7)) (J:=1000) (k:=1) rfl (fun x hx=>?_) (fun m hm=>?_)
 ·rw[tD] at hx;obtain⟨i,_,rfl⟩:=dP.1 hx;exact⟨_,rfl,rfl⟩
 ·rw[tD] at hm ⊢;rw[←hN] at hm ⊢;refine Jx ?_;rw[aoF];simp[Qv];refine aS.forLoop (α:=Nat) (fun k vr vo=>k≤N∧vr=[.int (a+k)]∧vo=[.list ((eJ c a k).map pS)]∧(eJ c a k).length≤m) (fun k=>N-k) 0 ?_ ?_
  ·simp[afg,eJ]
  ·rintro k vr vo ⟨hk,rfl,rfl,mc⟩;by_cases af:k<N
   ·have hle:a+(k:Int)≤b:=by omega
    have kO:IntKind.i64.wrap (a+(k:Int)+1)=a+((k+1:Nat):Int):=by rw[cY (by omega)];omega
    have bK:=(amd c hc (a+k) (by omega))
    have zb:=TW c a k;obtain⟨r,hr⟩:=aee c a (k:=k+1) (n:=N) af;simp[Z4,IG,hle];refine⟨_,bK.yld (by decide),?_⟩;cases hi:wq c.rest c.feasts c.shut (a+k)
    ·simp[hi] at zb ⊢;exact⟨k+1,by omega,by omega,kO,by rw[zb],by rw[zb];exact mc⟩
    ·simp[hi] at zb ⊢;have hlen:(eJ c a (k+1)).length=(eJ c a k).length+1:=by rw[zb];simp
     have rG:(eJ c a k).map pS++[D.tup [D.int (a+k)]]=(eJ c a (k+1)).map pS:=by rw[zb,nO];rfl
     have CR:(eJ c a (k+1)).map pS=((eJ c a N).map pS).take ((eJ c a k).length+1):=by
      rw[hr,nO,List.take_append_of_le_length (by simp[hlen]),AM (by simp[hlen])]
     have aV:(eJ c a k).length<((eJ c a N).map pS).length:=by rw[hr];simp[hlen];omega
     rw[rG];refine⟨_,ak.answer CR aV mc,?_⟩;by_cases vD:(eJ c a k).length<m
     ·simp[vD];exact⟨k+1,by omega,by omega,kO,rfl,by omega⟩
     ·obtain rfl:(eJ c a k).length=m:=by omega
      simp;rw[CR]
   ·obtain rfl:k=N:=by omega
    have hle:¬a+(k:Int)≤b:=by omega
    simp[Z4,IG,hle];rw[AM (by simp;omega)]
end Rm
namespace Rm
open Go Go.Proofs Cx
theorem aeg (c:City)(a b:Int):ak T 167 [fZ c,.int a,.int b] (.clo 204 [.ref (.int a),.ref (.int b),.ref (fZ c)]):=by
 refine .of_tree rfl (lA 80 (by kernel_rfl)) aoG ?_;simp[Qu]
def l8 (d:Int):Int:=if 100000<d+400 then 100000 else d+400
def jB (c:City)(d:Int):Int×Int:=
 if gM d=false then(0,3) else match eJ c d (l8 d-d+1).toNat with|[]=>(0,3)|x::_=>(x,0)
theorem aed {c:City}{a:Int}{k:Nat}{x:Int}(h:x∈eJ c a k):a≤x∧x<a+k:=by
 unfold eJ at h;obtain⟨h1,_⟩:=dO.mp h;obtain⟨i,hi,rfl⟩:=dP.mp h1;have:=bV.mp hi;omega
theorem als {c:City}{d:Int}(h:(jB c d).2=0):gM d=true∧d≤(jB c d).1∧(jB c d).1≤100000:=by
 unfold jB at h ⊢;cases hd:gM d
 ·simp[hd] at h
 ·simp only[hd] at h ⊢;cases hk:eJ c d (l8 d-d+1).toNat with
  |nil=>rw[hk] at h;simp at h
  |cons x l=>
   have hm:x∈eJ c d (l8 d-d+1).toNat:=by rw[hk];simp
   have:=aed hm;have he:l8 d≤100000:=by unfold l8;split<;>omega
   simp[gM] at hd;simp;unfold l8 at*;omega
theorem acm (c:City)(hc:ED c)(d:Int):ak T 140 [fZ c,.int d] (.tup [.int (jB c d).1,.int (jB c d).2]):=by
 refine .of_tree rfl (lA 79 (by kernel_rfl)) aoD ?_;simp[Qs];refine⟨_,EL d,?_⟩;cases hd:gM d
 ·simp[jB,hd]
 have fp:0≤d∧d≤100000:=by simpa [gM] using hd
 have hw:IntKind.i64.wrap (d+400)=d+400:=cY (by omega);have he:l8 d≤100000:=by unfold l8;split<;>omega
 simp[hd,hw];have hE:(if 100000<d+400 then D.int 100000 else D.int (d+400))=D.int (l8 d):=by unfold l8;split<;>rfl
 rw[hE];refine⟨_,aeg c d (l8 d),_,_,rfl,_,aec c hc d (l8 d) fp.1 (by omega) (by omega),?_⟩;cases hk:eJ c d (l8 d-d+1).toNat with
 |nil=>
  have hn:jB c d=(0,3):=by unfold jB;simp[hd,hk]
  rw[hn];refine aS.eachR [] (by simp) (fun _ vo=>vo=[.agg [.int 0],.agg [.int 0]]) ?_ (fun k x vo hx hi=>by simp at hx) (fun vo hi=>?_)
  ·simp
  ·subst hi;simp
 |cons x l=>
  have hn:jB c d=(x,0):=by unfold jB;simp[hd,hk]
  rw[hn];refine aS.eachR ((x::l).map pS) (by simp) (fun k vo=>k=0∧vo=[.agg [.int 0],.agg [.int 0]]) ?_ (fun k y vo hx hi=>?_) (fun vo hi=>?_)
  ·simp
  ·obtain⟨rfl,rfl⟩:=hi;simp at hx;subst hx;simp[am5,OZ,pS];rfl
  ·exact absurd hi.1 (by simp)
end Rm
namespace Rm
open Go Go.Proofs Cx
def Jd (o:Int)(d:Int)(h:Halt):Int:=if(h.order=o∧h.fr≤d)∧d≤h.to then h.to+1 else d
def lQ (r:Realm)(o d:Int)(k:Nat):Int:=(r.halts.take k).foldl (Jd o) d
theorem aaS (r:Realm)(o d:Int){k:Nat}(hk:k<r.halts.length):lQ r o d (k+1)=Jd o (lQ r o d k) r.halts[k]:=by
 unfold lQ;rw[nP hk,JK];rfl
def xh (r:Realm):Prop:=r.halts.length≤100000∧∀h,h∈r.halts→0≤h.fr∧h.to≤100000
theorem P9 {r:Realm}(hh:xh r)(o d:Int)(hd:d≤100001):∀k,k≤r.halts.length→d≤lQ r o d k∧lQ r o d k≤100001
 |0,_=>⟨by simp[lQ],by simpa [lQ] using hd⟩
 |k+1,hk=>by
  obtain⟨h1,h2⟩:=P9 hh o d hd k (by omega);rw[aaS r o d (by omega)];have:=hh.2 _ (cT (show k<r.halts.length by omega));unfold Jd;split<;>omega
def wV (r:Realm)(o:Int):Nat→Int→Int
 |0,d=>d
 |n+1,d=>if lQ r o d r.halts.length=d then d else wV r o n (lQ r o d r.halts.length)
def kB (r:Realm)(o d:Int):Int:=wV r o (100002-d).toNat d
theorem aaT {r:Realm}(hh:xh r)(o:Int):∀(n:Nat) (d:Int),d≤100001→d≤wV r o n d∧wV r o n d≤100001
 |0,d,hd=>⟨Int.le_refl _,hd⟩
 |n+1,d,hd=>by
  obtain⟨h1,h2⟩:=P9 hh o d hd r.halts.length (aW _);unfold wV;split
  ·omega
  ·have:=aaT hh o n _ h2;omega
theorem an1 (r:Realm)(hh:xh r)(o d:Int)(h0:0≤d)(hd:d≤100001):ak T 139 [bl r,.int o,.int d] (.int (kB r o d)):=by
 refine .of_tree rfl (lA 78 (by kernel_rfl)) apZ ?_;simp[RN];refine aS.forLoop (α:=Int×Bool×Nat) (fun s vr vo=>vr=[.int s.1,.bool s.2.1]∧vo=[]∧d≤s.1∧s.1≤100001∧(s.2.1=true→(100002-s.1).toNat≤s.2.2)∧(s.2.1=true→wV r o s.2.2 s.1=kB r o d)∧(s.2.1=false→s.1=kB r o d)) (fun s=>2*(100001-s.1).toNat+(if s.2.1 then 1 else 0)) (d,true,(100002-d).toNat) ?_ ?_
 ·simp;exact⟨by omega,rfl⟩
 ·rintro⟨e,ch,n⟩ vr vo ⟨rfl,rfl,h1,h2,h3,h4,h5⟩;simp only at*;cases ch
  ·simp[aae,IX];exact h5 rfl
  ·have h3:=h3 rfl;have h4:=h4 rfl;obtain⟨n,rfl⟩:∃m,n=m+1:=⟨n-1,by omega⟩
   have br:=P9 hh o e h2;simp[aae,IX];refine aS.forRounds r.halts.length (fun k=>[.int (lQ r o e k),.bool (decide (e<lQ r o e k)),.int k]) (fun _=>[]) ?_ (fun k hk=>?_) ?_
   ·simp[lQ]
   ·have hw:=bC hk (by have:=hh.1;omega);have cH:=br k (by omega);have MQ:=hh.2 _ (cT hk);rw[aaS r o e hk];unfold Jd;generalize lQ r o e k=x at*;by_cases hc:(r.halts[k].order=o∧r.halts[k].fr≤x)∧x≤r.halts[k].to
    ·have fA:IntKind.i64.wrap (r.halts[k].to+1)=r.halts[k].to+1:=cY (by omega);simp[IW,Ae,hk,hw,hc,fA];omega
    ·simp[IW,Ae,hk,hw,hc]
   ·have hE:=br r.halts.length (aW _);unfold wV at h4;generalize lQ r o e r.halts.length=x at*;by_cases hx:x=e
    ·rw[if_pos hx] at h4;subst hx;simp[IW,Ae];exact⟨x,by omega,rfl,h1,h2,h4⟩
    ·rw[if_neg hx] at h4;have af:e<x:=by omega
     simp[IW,Ae,af];exact⟨x,by omega,rfl,by omega,by omega,n,by omega,h4⟩
def wT (r:Realm)(c:City)(o:Int):Nat→Int→Int×Int
 |0,d=>(d,0)
 |n+1,d=>
  if(jB c (kB r o d)).2≠0 then(0,3)
  else if(jB c (kB r o d)).1=kB r o d then(kB r o d,0)
  else wT r c o n (jB c (kB r o d)).1
theorem anV (r:Realm)(c:City)(o:Int)(n:Nat)(d:Int):wT r c o (n+1) d=
 if(jB c (kB r o d)).2≠0 then(0,3)
 else if(jB c (kB r o d)).1=kB r o d then(kB r o d,0)
 else wT r c o n (jB c (kB r o d)).1:=rfl
def nF (r:Realm)(city d:Int):Int×Int:=wT r (r.cities.getD city.toNat default) (gk r city) (100002-d).toNat d
theorem aaO (r:Realm)(hh:xh r)(city d:Int)(hc:0≤city∧city<r.cities.length)(hs:∀c,c∈r.cities→ED c)(h0:0≤d)(hd:d≤100001):ak T 89 [bl r,.int city,.int d] (.tup [.int (nF r city d).1,.int (nF r city d).2]):=by
 refine .of_tree rfl (lA 77 (by kernel_rfl)) apY ?_;simp[RM];refine⟨_,pk r city,?_⟩;have aV:city.toNat<r.cities.length:=by omega
 have hcg:r.cities.getD city.toNat default=r.cities[city.toNat]:=by simp[aV]
 have hsc:=hs _ (cT aV);have hF:nF r city d=wT r r.cities[city.toNat] (gk r city) (100002-d).toNat d:=by unfold nF;rw[hcg]
 rw[hF];refine aS.forLoop (α:=Int×Nat) (fun s vr vo=>(∃a b,vr=[.int s.1,a,b])∧vo=[]∧0≤s.1∧s.1≤100001∧(100002-s.1).toNat≤s.2∧wT r r.cities[city.toNat] (gk r city) s.2 s.1=wT r r.cities[city.toNat] (gk r city) (100002-d).toNat d) (fun s=>s.2) (d,(100002-d).toNat) ?_ ?_
 ·simp;omega
 ·rintro⟨e,n⟩ vr vo ⟨⟨a,b,rfl⟩,rfl,h1,h2,h3,h4⟩;simp only at*;obtain⟨n,rfl⟩:∃m,n=m+1:=⟨n-1,by omega⟩
  rw[←h4];have hsk:=aaT hh (gk r city) (100002-e).toNat e h2;have hsr:=an1 r hh (gk r city) e h1 h2;rw[anV];change e≤kB r (gk r city) e∧kB r (gk r city) e≤100001 at hsk;generalize kB r (gk r city) e=x at*;have Mj:=acm r.cities[city.toNat] hsc x;have p8:=als (c:=r.cities[city.toNat]) (d:=x);generalize jB r.cities[city.toNat] x=N at*;obtain⟨y,er⟩:=N;simp only at Mj p8;simp[ana,PJ];refine⟨_,hsr,?_⟩;simp[aV,hc];refine⟨_,Mj,?_⟩;by_cases he:er=0
  ·obtain⟨g1,g2,g3⟩:=p8 he;by_cases hy:y=x
   ·simp[he,hy]
   ·simp[he,hy];exact⟨y,n,by omega,rfl,by omega,by omega,by omega,rfl⟩
  ·simp[he]
end Rm
namespace Rm
open Go Go.Proofs Cx
structure RightD (r:Realm):Prop where
 small:Small r
 halts:xh r
theorem RightD.cities {r:Realm}(h:RightD r)(c:City)(hc:c∈r.cities):ED c:=by
 obtain⟨h1,h2,h3,_⟩:=h.small.city c hc;exact⟨by omega,by omega,by omega⟩
theorem S6 (d:Int)(t:Tenor):∃n e:Int,ak T 138 [.int d,rj t] (.tup [.int n,.int e]):=by
 by_cases h0:t.n<0
 ·refine⟨0,3,.of_tree rfl Fa Jv ?_⟩;simp[Av,h0]
 by_cases h1:20000<t.n
 ·refine⟨0,3,.of_tree rfl Fa Jv ?_⟩;simp[Av,h0,h1]
 by_cases h2:t.unit=1
 ·obtain⟨n,e,h,_⟩:=abY d t.n;refine⟨n,e,.of_tree rfl Fa Jv ?_⟩;simp[Av,h0,h1,h2];refine⟨_,h,?_⟩;simp
 ·refine⟨IntKind.i64.wrap (d+t.n),0,.of_tree rfl Fa Jv ?_⟩;simp[Av,h0,h1,h2]
theorem ado (r:Realm)(hr:RightD r)(b:Bill)(seen:Int):∃n e:Int,ak T 88 [bl r,fK b,.int seen] (.tup [.int n,.int e]):=by
 have htn:D.agg [D.int b.tenor.kind,D.int b.tenor.n,D.int b.tenor.unit]=rj b.tenor:=rfl;by_cases h0:b.tenor.kind=0
 ·refine⟨seen,0,.of_tree rfl xt Aw ?_⟩;simp[ur,h0]
 by_cases h1:b.tenor.kind=1
 ·obtain⟨n,e,h⟩:=S6 seen b.tenor;refine⟨n,e,.of_tree rfl xt Aw ?_⟩;have cB:(b.tenor.kind=1)=True:=eq_true h1;simp[ur,h0,cB];refine⟨_,h,?_⟩;simp
 by_cases h2:b.tenor.kind=2
 ·obtain⟨n,e,h⟩:=S6 b.day b.tenor;refine⟨n,e,.of_tree rfl xt Aw ?_⟩;have gz:(b.tenor.kind=2)=True:=eq_true h2;simp[ur,h0,h1,gz];refine⟨_,h,?_⟩;simp
 by_cases h4:b.tenor.kind=4
 ·obtain⟨n,e,h,_⟩:=acp r b.city b.pay (by have:=hr.small.us;omega);refine⟨IntKind.i64.wrap (b.day+n),e,.of_tree rfl xt Aw ?_⟩;have yH:(b.tenor.kind=4)=True:=eq_true h4;simp[ur,h0,h1,h2,yH];refine⟨_,h,?_⟩;simp
 ·refine⟨b.tenor.n,0,.of_tree rfl xt Aw ?_⟩;simp[ur,h0,h1,h2,h4]
theorem ak.ex_of_tree {tab:Nat→Option PC}{ext:Nat→Option (aK→List D→Option D)}{f:Nat}{pc:PC}{t:PT}{ds:List D}{P:D→Prop}(hx:ext f=none)(ht:tab f=some pc)(he:tree pc=t)
 (h:aE (eG tab ext) t (kG ds) (fun x=>∃d,x=.ret d∧P d)):∃d,ak (eG tab ext) f ds d∧P d:=by
 subst he;obtain⟨x,⟨d,rfl,hd⟩,n0,hn⟩:=abb (Ig ⟨fun _ _ _ h=>(by obtain⟨_,h,_⟩:=h;cases h),fun _ _ _ _ _ _ h=>(by obtain⟨_,h,_⟩:=h;cases h),fun _ h=>h⟩ h);exact⟨d,.of_pc hx ht ⟨.ret d,rfl,n0,hn⟩,hd⟩
def E3 (d:D):Prop:=∃n e:Int,d=.tup [.int n,.int e]
@[simp] theorem asJ (n e:Int):E3 (.tup [.int n,.int e])=True:=eq_true ⟨n,e,rfl⟩
theorem xe (r:Realm)(hr:RightD r)(b:Bill)(seen iu:Int):∃d,ak T 44 [bl r,fK b,.int seen,.int iu] d∧E3 d:=by
 have htn:D.agg [D.int b.tenor.kind,D.int b.tenor.n,D.int b.tenor.unit]=rj b.tenor:=rfl;have ly:=aaj r hr.small;refine ak.ex_of_tree rfl Ts aa8 ?_;simp[Ju];refine⟨_,ly,?_⟩;by_cases h0:l6 r=0
 case neg=>simp[h0]
 simp[h0];refine⟨_,Hw r b.city,?_⟩;cases h1:aL b.city r.cities.length
 ·simp[h1]
 simp[h1];refine⟨_,Hw r b.pay,?_⟩;cases h2:aL b.pay r.cities.length
 ·simp[h2]
 simp[h2];refine⟨_,CZ b.day,?_⟩;cases h3:gM b.day
 ·simp[h3]
 simp[h3];intro _ _ _ _;have hp:0≤b.pay∧b.pay<r.cities.length:=by simpa [aL] using h2
 have fin:0≤iu→iu≤20000→∃d,ak T 88 [bl r,fK b,D.int seen] d∧
  if(d.tget 1).i=0 then ∃d1,ak T 86 [d.tget 0] d1∧(d1.b=true→IntKind.i64.wrap ((d.tget 0).i+iu)≤100000→
        ∃d2,ak T 89 [bl r,D.int b.pay,D.int (IntKind.i64.wrap ((d.tget 0).i+iu))] d2∧E3 (D.tup [d2.tget 0,d2.tget 1]))
  else E3 (D.tup [D.int 0,d.tget 1]):=by
  intro yX m4;obtain⟨n,e,h⟩:=ado r hr b seen;refine⟨_,h,?_⟩;by_cases he:e=0
  ·simp[he];refine⟨_,CZ n,?_⟩;cases hd:gM n
   ·simp[hd]
   have fp:0≤n∧n≤100000:=by simpa [gM] using hd
   have hw:IntKind.i64.wrap (n+iu)=n+iu:=cY (by omega);simp[hd,hw];intro hle;refine⟨_,aaO r hr.halts b.pay (n+iu) hp hr.cities (by omega) (by omega),?_⟩;simp
  ·simp[he]
 by_cases hs:seen=-1
 ·simp[hs] at fin ⊢;intro yX m4;refine⟨_,JZ b.tenor,?_⟩;simp;intro _;exact fin yX m4
 ·simp[hs] at fin ⊢;refine⟨_,CZ seen,?_⟩;cases hk:gM seen
  ·simp[hk]
  simp[hk];intro yX m4;exact⟨⟨_,JZ b.tenor⟩,fin yX m4⟩
def q8 (r:Realm)(b:Bill)(seen iu:Int):Int×Int:=
 open Classical in if h:RightD r then((xe r h b seen iu).choose_spec.2.choose,(xe r h b seen iu).choose_spec.2.choose_spec.choose) else(0,0)
theorem SB (r:Realm)(hr:RightD r)(b:Bill)(seen iu:Int):ak T 44 [bl r,fK b,.int seen,.int iu] (.tup [.int (q8 r b seen iu).1,.int (q8 r b seen iu).2]):=by
 have h:=(xe r hr b seen iu).choose_spec.2.choose_spec.choose_spec;have h1:=(xe r hr b seen iu).choose_spec.1;rw[h] at h1;have e:q8 r b seen iu=((xe r hr b seen iu).choose_spec.2.choose,(xe r hr b seen iu).choose_spec.2.choose_spec.choose):=by unfold q8;rw[dif_pos hr]
 rw[e];exact h1
def oM (r:Realm)(aw:Int)(f:File)(day:Int):Int:=
 if(dX f day).signs=[] then-1
 else if(q8 r f.bill (uh (dX f day)) (max (qm (qZ r aw 6 (dX f day) day)) 0)).2≠0 then-1
 else(q8 r f.bill (uh (dX f day)) (max (qm (qZ r aw 6 (dX f day) day)) 0)).1
@[simp] theorem awg (x:File)(a0 a1 a2 a3 a4 a5 a6 a7 a8 a9 qQ qT a12 qU qV uM uN uO uP:D):(eF [a0,a1,a2,a3,a4,a5,a6,a7,a8,a9,qQ,qT,a12,qU,qV,uM,uN,uO,uP] 0 [.int x.bill.drawer,.int x.bill.drawee,.int x.bill.payee,.int x.bill.sum,.int x.bill.currency,.int x.bill.tenor.kind,.int x.bill.tenor.n,.int x.bill.tenor.unit,.int x.bill.day,.int x.bill.city,.int x.bill.pay,.int x.bill.need,.int x.bill.rate,.int x.bill.flags,.int x.bill.parts,signs x.signs,alters x.alters,acts x.acts,facts x.facts])[15]?.getD D.none=signs x.signs:=_root_.id rfl
theorem JS (r:Realm)(hr:Right r)(hd:RightD r)(aw:Int)(f:File)(day:Int)(hf:FewS f):ak T 22 [bl r,.int aw,ga f,.int day] (.int (oM r aw f day)):=by
 refine .of_tree rfl (lA 44 (by kernel_rfl)) aou ?_;simp[Qk];refine⟨_,PO f day (by have:=hf.signs;omega) (by have:=hf.acts;omega) (by have:=hf.alters;omega) (by have:=hf.facts;omega),?_⟩;have hg:=hf.at_ day;have hb:(dX f day).bill=f.bill:=rfl;unfold oM;generalize dX f day=g at*;simp;by_cases h0:g.signs=[]
 ·simp[h0]
 simp[h0];refine⟨_,acS r hr aw 6 g day hg,_,Ti _,_,anp g (by have:=hg.signs;omega) (by have:=hg.acts;omega),?_⟩;have hm:(if(D.int (qm (qZ r aw 6 g day))).i<0 then D.int 0 else D.int (qm (qZ r aw 6 g day)))=D.int (max (qm (qZ r aw 6 g day)) 0):=by
  simp only[aej];split
  ·rw[Int.max_eq_right (by omega)]
  ·rw[Int.max_eq_left (by omega)]
 rw[hm,hb];refine⟨_,SB r hd f.bill _ _,?_⟩;by_cases he:(q8 r f.bill (uh g) (max (qm (qZ r aw 6 g day)) 0)).2=0<;>simp[he]
end Rm
namespace Rm
open Go Go.Proofs Cx
theorem aem {r:Realm}{b:Bill}(hr:RightD r)(hc:l6 r=0)(hci:aL b.city r.cities.length=true)(dR:aL b.pay r.cities.length=true)(hd:gM b.day=true)(hk:b.tenor.kind=3)(hu:b.tenor.unit=0)
 (hn:gM b.tenor.n=true) {g:Int} (hg:0≤g∧g≤20000) (hs:b.tenor.n+g≤100000):q8 r b (-1) g=nF r b.pay (b.tenor.n+g):=by
 have ly:=aaj r hr.small;rw[hc] at ly;have gR:0≤b.tenor.n∧b.tenor.n≤100000:=by simpa [gM] using hn
 have oI:=aaO r hr.halts b.pay (b.tenor.n+g) (by simpa [aL] using dR) hr.cities (by omega) (by omega);have hb:ak T 88 [bl r,fK b,.int (-1)] (.tup [.int b.tenor.n,.int 0]):=by
  refine .of_tree rfl xt Aw ?_;simp[ur,hk]
 have h:ak T 44 [bl r,fK b,.int (-1),.int g] (.tup [.int (nF r b.pay (b.tenor.n+g)).1,.int (nF r b.pay (b.tenor.n+g)).2]):=by
  have m5:=Hw r b.city;have Vv:=Hw r b.pay;have vu:=CZ b.day;have Vw:=CZ b.tenor.n;have Vx:=JZ b.tenor;rw[hci] at m5;rw[dR] at Vv;rw[hd] at vu;rw[hn] at Vw;rw[show Jb b.tenor=false from by simp[Jb,hk]] at Vx;have hw:IntKind.i64.wrap (b.tenor.n+g)=b.tenor.n+g:=cY (by omega);have m4:¬g<0:=by omega
  have gB:¬20000<g:=by omega
  have fb:¬100000<b.tenor.n+g:=by omega
  refine .of_tree rfl Ts aa8 ?_;simp[Ju];refine⟨_,ly,?_⟩;simp;refine⟨_,m5,?_⟩;simp;refine⟨_,Vv,?_⟩;simp;refine⟨_,vu,?_⟩;simp[hk,hu,m4,gB];refine⟨_,Vx,?_⟩;simp;refine⟨_,hb,?_⟩;simp;refine⟨_,Vw,?_⟩;simp[hw,fb];refine⟨_,oI,?_⟩;simp
 have h2:=h.det (SB r hr b (-1) g);simp at h2;exact Prod.ext h2.1.symm h2.2.symm
end Rm
namespace Rm
open Go Go.Proofs Cx
theorem Xs:∀(L:Nat) (cs:List Cell) (t:Tm) (k:Int),bW L t=(k,0)→∀y,y∈cP L cs t→(0≤y∧y≤19)∧(j3 cs y).known=false
 |0,cs,t,k,_,y,hy=>by simp[cP] at hy
 |L+1,cs,t,k,hc,y,hy=>by
  obtain⟨ha,_⟩:=Ge hc;obtain⟨hn,_⟩:=Gf hc;have gh:∀a,a∈t.args→∀y,y∈cP L cs a→(0≤y∧y≤19)∧(j3 cs y).known=false:=fun a hm y hy=>Xs L cs a (bW L a).1 (by rw[←ha a hm]) y hy;rw[Db] at hy;split at hy
  ·cases hy
  rename_i iv;split at hy
  ·rename_i h2;split at hy
   ·cases hy
   ·rename_i hk;have hy:y=t.n:=by simpa using hy
    subst hy;refine⟨?_,by simpa using hk⟩;cases hn with
    |var h0 ha hn=>exact hn
    |_=>omega
  split at hy
  ·generalize (2-(bh (t.args.map (bE L cs)) 0).n).toNat=i at hy;rw[aG,cg] at hy;cases hi:t.args[i]? with
   |none=>rw[hi] at hy;simp at hy
   |some a=>
    rw[hi] at hy;exact gh a (jn hi) y (by simpa using hy)
  split at hy
  ·cases hy
  ·obtain⟨l,hl,hy⟩:=List.mem_flatten.1 hy;obtain⟨a,hm,rfl⟩:=dP.1 hl;exact gh a hm y hy
def En (t:Tm)(cs:List Cell):List Int:=if(ln t).2=0 then gy (km (cP 8 cs t)) else[]
theorem aof (t:Tm)(cs:List Cell)(ht:t.OK):ak T Nz [df t,cells cs] (ints (En t cs)):=by
 refine ak.of_ext (g:=wO) rfl ?_;obtain⟨n0,h0⟩:=Qb t ht;refine⟨n0,fun n hn=>anb ⟨df t,cells cs,rfl,_,_,h0 n hn,?_⟩⟩;unfold En;by_cases h:(ln t).2=0
 ·rw[if_pos h];obtain⟨h1,h2⟩:=KR h;have hl:=HM 8 cs t h1;refine .inr ⟨h,_,_,Qe 8 cs t _ ht h1 h2,⟨by omega,fun y hy=>?_⟩,rfl⟩;have:=(Xs 8 cs t _ h2 y hy).1;omega
 ·rw[if_neg h];exact .inl ⟨h,rfl⟩
def Dj (o:Order)(q:Int)(cs:List Cell):List Int:=if(findF o q).2=0 then En (findF o q).1 cs else[]
theorem YV (o:Order)(q:Int)(cs:List Cell)(ho:o.OK)(hl:o.rules.length≤4294967296):ak T 42 [ir o,.int q,cells cs] (ints (Dj o q cs)):=by
 refine .of_tree rfl (lA 41 (by kernel_rfl)) aoW ?_;simp[QI];refine⟨_,YW o q ho hl,?_⟩;unfold Dj;have hF:=Uq ho q;generalize findF o q=F at*;obtain⟨t,e⟩:=F;by_cases h:e=0
 ·subst h;simp;have h1:=aof t cs hF;obtain⟨op,n,args⟩:=t;exact h1
 ·simp[h]
  try rfl
def tO (r:Realm)(aw q:Int)(c:Case):List Int:=
 if(eI r aw q c).1.order=-1 then[] else Dj (kS r (eI r aw q c).1.order) q (eI r aw q c).2
theorem Th (r:Realm)(hr:Right r)(aw q:Int)(c:Case)(hf:FewS c.file):ak T 20 [bl r,.int aw,.int q,dI c] (ints (tO r aw q c)):=by
 refine .of_tree rfl Tn aa4 ?_;simp[Jn];refine⟨_,Ka r hr aw q c hf,?_⟩;have ho:=Tg hr aw q c;unfold tO;generalize eI r aw q c=S at*;obtain⟨s,cs⟩:=S;simp only at*;by_cases h:s.order=-1
 ·obtain⟨⟨kn,n⟩,o,pth,e⟩:=s;simp only at h;subst h;simp
  try rfl
 ·have h1:0≤s.order∧s.order<r.orders.length:=by omega
  have h2:s.order.toNat<r.orders.length:=by omega
  have h3:kS r s.order=r.orders[s.order.toNat]:=by simp[kS,h2]
  obtain⟨au,hlen⟩:=hr.ok _ (cT h2);simp[h,h1,h2,h3];exact YV _ q cs au (by omega)
theorem anh (t:Tm)(cs:List Cell):(En t cs).length≤60:=by
 unfold En;split
 ·rename_i h;obtain⟨h1,h2⟩:=KR h;have hl:=HM 8 cs t h1;have h3:=TZ (km (cP 8 cs t)) (km (cP 8 cs t)).length;have h4:(gy (km (cP 8 cs t))).length≤(km (cP 8 cs t)).length:=h3;rw[CY] at h4;omega
 ·simp
theorem alq (r:Realm)(aw q:Int)(c:Case):(tO r aw q c).length≤60:=by
 unfold tO;split
 ·simp
 ·unfold Dj;split
  ·exact anh _ _
  ·simp
end Rm
namespace Rm
open Go Go.Proofs Cx
theorem OM (l:List Int)(hl:l.length≤4000000):ak T 17 [ints l,ints l] (.bool true):=by
 refine .of_tree rfl (lA 42 (by kernel_rfl)) aph ?_;simp[Q5];refine aS.forRounds l.length (fun k=>[.bool false,.int k]) (fun _=>[]) ?_ (fun k hk=>?_) ?_
 ·simp
 ·have hw:=bC hk (by omega);simp[Z5,IK,hk,hw]
 ·simp[Z5,IK]
theorem Iw (s:Said)(hl:s.path.length≤4000000):ak T 12 [jM s,jM s] (.bool true):=by
 refine .of_tree rfl (lA 37 (by kernel_rfl)) apk ?_;simp[Q8];refine aS.forRounds s.path.length (fun k=>[.bool false,.int k]) (fun _=>[]) ?_ (fun k hk=>?_) ?_
 ·simp
 ·have hw:=bC hk (by omega);simp[Z6,IL,hk,hw]
 ·simp[Z6,IL]
def Oi (r:Realm)(aw:Int)(c:Case):List Int:=if gp r (dw c)=[] then[] else iO r aw (dw c)
theorem acT (r:Realm)(aw:Int)(c:Case)(hf:FewS c.file):ak T 18 [bl r,.int aw,dI c] (ints (Oi r aw c)):=by
 refine .of_tree rfl (lA 43 (by kernel_rfl)) aow ?_;simp[Qm];refine⟨_,Tj r c hf,?_⟩;unfold Oi;by_cases hv:gp r (dw c)=[]
 ·simp[hv];rfl
 simp[hv];exact Zj r aw (dw c) (abP hv)
def Sm:Tm:=.mk 2 15 []
def abW:Tm:=.mk 4 0 [Sm,.mk 2 17 []]
def EN:Order:=⟨⟨#[103,101,110,101,118,97]⟩,false,[],[⟨2,Sm⟩,⟨6,.mk 0 0 []⟩]⟩
def sy:Order:=⟨⟨#[108,111,110,100,111,110]⟩,false,[⟨2,1,false⟩],[⟨2,abW⟩,⟨6,.mk 0 3 []⟩]⟩
def cK:Realm:=⟨[⟨#[102,114,97,110,99]⟩],[⟨⟨#[76,121,111,110]⟩,0,0,[],[],[]⟩,⟨⟨#[76,111,110,100,111,110]⟩,1,0,[],[],[]⟩],[⟨0⟩],[⟨⟨#[97]⟩,0,0⟩,⟨⟨#[98]⟩,1,0⟩],[EN,sy],[],[],[]⟩
def JA (c:Int):Bill:=⟨0,1,0,5,0,⟨3,10,0⟩,2,c,1,-1,0,1,1⟩
def hG (c:Int):File:=⟨JA c,[⟨0,0,0,-1,-1,0,2,c,0⟩],[],[],[⟨0,0,1⟩]⟩
def j5 (c:Int):Case:=⟨hG c,0,-1,-1,-1,5⟩
set_option maxRecDepth 10000 in
theorem aqD:ak T 28 [] (bl cK):=by
 refine .of_tree rfl (lA 2 (by kernel_rfl)) aoS ?_;simp[QF];kernel_rfl
set_option maxRecDepth 10000 in
theorem sw (c:Int):ak T 30 [.int c] (ga (hG c)):=by
 refine .of_tree rfl (lA 3 (by kernel_rfl)) aoR ?_;simp[QE];rfl
set_option maxRecDepth 10000 in
theorem AA (f:File):ak T 29 [ga f] (dI ⟨f,0,-1,-1,-1,5⟩):=by
 refine .of_tree rfl (lA 4 (by kernel_rfl)) aoP ?_;simp[QC];rfl
theorem aqP:Small cK:=by
 refine⟨by decide,by decide,by decide,by decide,by decide,by decide,by decide,by decide,?_,?_,?_⟩
 ·intro c hc;simp[cK] at hc;rcases hc with rfl|rfl<;>simp
 ·intro o ho;simp[cK] at ho;rcases ho with rfl|rfl<;>simp[EN,sy]
 ·intro x hx;simp[cK] at hx
theorem abV:RightD cK:=⟨aqP,by decide,fun h hh=>by simp[cK] at hh⟩
theorem lE {n:Int}(h:-100000≤n∧n≤100000):aT n:=by unfold aT;omega
theorem JC:Right cK:=by
 have g:Sm.OK:=.mk _ _ [] (lE (by omega)) (lE (by omega)) (by decide) (fun _ h=>by cases h);have n:∀k:Int,0≤k→k≤100→(Tm.mk 0 k []).OK:=fun k h1 h2=>.mk _ _ [] (lE (by omega)) (lE (by omega)) (by decide) (fun _ h=>by cases h)
 have b:abW.OK:=.mk _ _ _ (lE (by omega)) (lE (by omega)) (by decide) (fun a h=>by
  simp at h;rcases h with rfl|rfl
  ·exact g
  ·exact .mk _ _ [] (lE (by omega)) (lE (by omega)) (by decide) (fun _ h=>by cases h))
 refine⟨?_,by decide,?_⟩
 ·intro o ho;simp[cK] at ho;rcases ho with rfl|rfl
  ·exact⟨by decide,fun ch h=>by simp[EN] at h⟩
  ·exact⟨by decide,fun ch h=>by simp[sy] at h;subst h;decide⟩
 ·intro o ho;simp[cK] at ho;rcases ho with rfl|rfl
  ·refine⟨⟨⟨by decide,fun ch h=>by simp[EN] at h⟩,by decide,?_⟩,by decide⟩;intro x hx;simp[EN] at hx;rcases hx with rfl|rfl
   ·exact⟨lE (by decide),g⟩
   ·exact⟨lE (by decide),n 0 (by decide) (by decide)⟩
  ·refine⟨⟨⟨by decide,fun ch h=>?_⟩,by decide,?_⟩,by decide⟩
   ·simp[sy] at h;subst h;exact⟨lE (by decide),lE (by decide)⟩
   intro x hx;simp[sy] at hx;rcases hx with rfl|rfl
   ·exact⟨lE (by decide),b⟩
   ·exact⟨lE (by decide),n 3 (by decide) (by decide)⟩
theorem JB (c:Int):FewS (hG c):=⟨by simp[hG],by simp[hG],by simp[hG],by simp[hG]⟩
theorem aqE:jK cK 0 2 (j5 0)=⟨⟨true,1⟩,0,[0],0⟩:=by kernel_rfl
theorem aqF:jK cK 1 2 (j5 0)=⟨⟨true,1⟩,0,[1,0],0⟩:=by kernel_rfl
theorem aqG:jK cK 1 2 (j5 1)=⟨⟨false,0⟩,1,[1],0⟩:=by kernel_rfl
theorem aqH:(jK cK 0 0 (j5 0)).err=4∧R0 (jK cK 0 0 (j5 0))=0∧qm (jK cK 0 0 (j5 0))=-1:=⟨by kernel_rfl,by kernel_rfl,by kernel_rfl⟩
theorem aqO:Oi cK 1 (j5 0)=[1,0,1,0,0]:=by kernel_rfl
theorem aqI:eI cK 1 2 (j5 1)=(⟨dU,1,[1],0⟩,gp cK (dw (j5 1))):=by kernel_rfl
theorem aqN:ak T 42 [ir sy,.int 2,cells (gp cK (dw (j5 1)))] (ints [17]):=by
 have h:=YV sy 2 (gp cK (dw (j5 1))) (JC.ok sy (by simp[cK])).1 (by decide);rw[show Dj sy 2 (gp cK (dw (j5 1)))=[17] by kernel_rfl] at h;exact h
theorem aqM:ak T 20 [bl cK,.int 1,.int 2,dI (j5 1)] (ints [17]):=by
 have hf:=Ka cK JC 1 2 (j5 1) (JB 1);rw[aqI] at hf;refine .of_tree rfl Tn aa4 ?_;simp[Jn];refine⟨_,hf,?_⟩;simp[dU];exact⟨by decide,aqN⟩
theorem abU (aw:Int)(g:Int)(hg:max (qm (qZ cK aw 6 (dX (hG 0) 5) 5)) 0=g)(h0:0≤g∧g≤100):oM cK aw (hG 0) 5=if(nF cK 1 (10+g)).2≠0 then-1 else(nF cK 1 (10+g)).1:=by
 have h2:uh (dX (hG 0) 5)=-1:=by kernel_rfl
 have h4:q8 cK (JA 0) (-1) g=nF cK 1 (10+g):=aem (b:=JA 0) abV (by kernel_rfl) (by decide) (by decide) (by decide) rfl rfl (by decide) (by omega) (by show(10:Int)+g≤100000;omega);unfold oM;rw[if_neg (by decide),h2,hg,show(hG 0).bill=JA 0 from rfl,h4]
theorem aqJ:oM cK 0 (hG 0) 5=10:=by
 have h5:nF cK 1 10=(10,0):=by kernel_rfl
 have:=abU 0 0 (by kernel_rfl) (by decide);rw[this,show(10:Int)+0=10 from rfl,h5];simp
theorem aqK:oM cK 1 (hG 0) 5=13:=by
 have h5:nF cK 1 13=(13,0):=by kernel_rfl
 have:=abU 1 3 (by kernel_rfl) (by decide);rw[this,show(10:Int)+3=13 from rfl,h5];simp
theorem aqL:oM cK 0 (hG 0) 1=-1:=by
 unfold oM;rw[if_pos (by decide)]
def abe:PT:=
 (.call ⟨[],[]⟩ [(102,true)] 105 22 [Iv,(pi 0),OI,(pi 1)] (.ret (.pick ZK (peq ZL (pi (-1))) pF)))
def abp:PT:=
 (.call ⟨[(103,(aB 8 o1)),(102,(.pick ZZ (peq IE (pi 13)) pF))],[]⟩ [(102,true)] 104 30 [(pi 0)] abe)
def abB:PT:=
 (.call ⟨[],[]⟩ [(96,true)] 99 22 [Z0,(pi 1),Z1,(pi 5)] abp)
def abH:PT:=
 (.call ⟨[(97,(aB 8 o1)),(96,(.pick ZX (peq DF (pi 10)) pF))],[]⟩ [(96,true)] 98 30 [(pi 0)] abB)
def abI:PT:=
 (.call ⟨[],[]⟩ [(90,true)] 93 22 [ZY,(pi 0),DE,(pi 5)] abH)
def abJ:PT:=
 (.call ⟨[(91,(aB 8 o1)),(90,(.pick (.pick r7 r8 pF) (.pick DC sl pF) pF))],[]⟩ [(90,true)] 92 30 [(pi 0)] abI)
def abK:PT:=
 (.call ⟨[],[]⟩ [(75,true)] 81 17 [ZV,(.lst [(pi 1),(pi 0),(pi 1),(pi 0),(pi 0)])] abJ)
def abL:PT:=
 (.call ⟨[],[]⟩ [(75,true)] 79 18 [pj,(pi 1),OV] abK)
def abM:PT:=
 (.call ⟨[],[]⟩ [(75,true)] 78 29 [ZU] abL)
def abf:PT:=
 (.call ⟨[(76,(aB 8 o1)),(75,zZ)],[]⟩ [(75,true)] 77 30 [(pi 0)] abM)
def abg:PT:=
 (.call ⟨[],[]⟩ [] 74 17 [OT,(.lst [(pi 17)])] abf)
def abh:PT:=
 (.call ⟨[],[]⟩ [] 72 20 [sk,(pi 1),(pi 2),ZT] abg)
def abi:PT:=
 (.call ⟨[],[]⟩ [] 71 29 [ZS] abh)
def abj:PT:=
 (.call ⟨[(69,(aB 8 o1)),(8,(.pick IC (peq OS (pi 2)) pF))],[]⟩ [] 70 30 [(pi 1)] abi)
def abk:PT:=
 (.call ⟨[(64,(.pick OP (peq DB (pi 1)) pF))],[]⟩ [(64,true)] 66 13 [(aB 5 o4)] abj)
def abl:PT:=
 (.call ⟨[(59,(.pick se (peq mG (pi (-1))) pF))],[]⟩ [(59,true)] 61 13 [(aB 5 o2)] abk)
def abm:PT:=
 (.call ⟨[(54,(.pick sd (peq Iz (pi 0)) pF))],[]⟩ [(54,true)] 56 15 [(aB 5 o5)] abl)
def abn:PT:=
 (.call ⟨[(49,(peq (pc o5 4) (pi 4))),(7,(.pick pg wI pF))],[]⟩ [(49,true)] 51 13 [(aB 5 o5)] abm)
def abo:PT:=
 (.call ⟨[(40,(.pick tY jj pF))],[]⟩ [(40,true)] 44 12 [(aB 5 o4),(.mk [(.con (.agg [(.bool false),(.int 0)])),(pi 1),(.lst [(pi 1)]),(pi 0)])] abn)
def abq:PT:=
 (.call ⟨[(33,ON)],[]⟩ [(33,true)] 38 12 [(aB 5 o3),(.mk [(.mk [(pc o6 0),(pc o6 1)]),(pi 0),(.lst [(pi 1),(pi 0)]),(pi 0)])] abo)
def abr:PT:=
 (.call ⟨[],[(6,(.setc (.con (.agg [(.bool false),(.int 0)])) 0 (.mk [pT,(pi 1)]))),(5,(.setc (.con (.agg [(.bool false),(.int 0),(.int 0),(.list []),(.int 0)])) 0 mE))]⟩ [] 32 12 [(aB 5 o2),(.mk [(.mk [(pc (.setc (.con (.agg [(.bool false),(.int 0)])) 0 (.mk [pT,(pi 1)])) 0),(pc (.setc (.con (.agg [(.bool false),(.int 0)])) 0 (.mk [pT,(pi 1)])) 1)]),(pi 0),(.lst [(pi 0)]),(pi 0)])] abq)
def abt:PT:=
 (.call ⟨[],[]⟩ [] 26 8 [lN,(pi 0),(pi 0),jZ] abr)
def abu:PT:=
 (.call ⟨[],[]⟩ [] 25 29 [oZ] abt)
def abv:PT:=
 (.call ⟨[(23,(aB 8 o1))],[(4,(.setc (.con (.agg [(.bool false),(.int 0),(.int 0),(.list []),(.int 0)])) 0 Ix))]⟩ [] 24 30 [(pi 0)] abu)
def abw:PT:=
 (.call ⟨[],[]⟩ [] 22 8 [iP,(pi 1),(pi 2),lM] abv)
def abx:PT:=
 (.call ⟨[],[]⟩ [] 21 29 [eN] abw)
def aby:PT:=
 (.call ⟨[(19,(aB 8 o1))],[(3,(.setc (.con (.agg [(.bool false),(.int 0),(.int 0),(.list []),(.int 0)])) 0 kz))]⟩ [] 20 30 [(pi 1)] abx)
def abz:PT:=
 (.call ⟨[],[]⟩ [] 18 8 [ji,(pi 1),(pi 2),qv] aby)
def abA:PT:=
 (.call ⟨[],[]⟩ [] 17 29 [eD] abz)
def abC:PT:=
 (.call ⟨[(15,(aB 8 o1))],[(2,(.setc (.con (.agg [(.bool false),(.int 0),(.int 0),(.list []),(.int 0)])) 0 dj))]⟩ [] 16 30 [(pi 0)] abA)
def abD:PT:=
 (.call ⟨[],[]⟩ [] 14 8 [bQ,(pi 0),(pi 2),eC] abC)
def abE:PT:=
 (.call ⟨[],[]⟩ [] 13 29 [cj] abD)
def abF:PT:=
 (.call ⟨[(11,(aB 8 (.setc (.con (.agg [(.list []),(.list []),(.list []),(.list []),(.list []),(.list []),(.list []),(.list [])])) 0 dL)))],[(1,(.setc (.con (.agg [(.list []),(.list []),(.list []),(.list []),(.list []),(.list []),(.list []),(.list [])])) 0 dL))]⟩ [] 12 30 [(pi 0)] abE)
def abG:PT:=
 (.call ⟨[],[]⟩ [] 10 28 [] abF)
theorem aoT:QG=abG:=rfl
theorem anN:ak T 6 [] (.bool true):=by
 have k:=fun aw q c=>E7 cK JC aw q (j5 c) (JB c);have k1:=k 0 2 0;have k2:=k 1 2 0;have k3:=k 1 2 1;have k4:=k 0 0 0;rw[aqE] at k1;rw[aqF] at k2;rw[aqG] at k3;obtain⟨g1,g2,g3⟩:=aqH;generalize jK cK 0 0 (j5 0)=S4 at*;obtain⟨⟨kn,nn⟩,oo,pp,ee⟩:=S4;simp only at g1;subst g1;have t4:=J9 ⟨⟨kn,nn⟩,oo,pp,4⟩;have n4:=Ti ⟨⟨kn,nn⟩,oo,pp,4⟩;rw[g2] at t4;rw[g3] at n4;have t1:=J9 ⟨⟨true,1⟩,0,[0],0⟩;have t3:=J9 ⟨⟨false,0⟩,1,[1],0⟩;have m:=fun aw day=>JS cK JC abV aw (hG 0) day (JB 0);have m1:=m 0 5;have m2:=m 1 5;have m3:=m 0 1;rw[aqJ] at m1;rw[aqK] at m2;rw[aqL] at m3;have pl:=acT cK 1 (j5 0) (JB 0);rw[aqO] at pl;refine .of_tree rfl (lA 1 (by kernel_rfl)) aoU ?_;rw[aoT];simp[abG];refine⟨_,aqD,?_⟩;simp[abF];refine⟨_,sw 0,?_⟩;simp[abE];refine⟨_,AA (hG 0),?_⟩;simp[abD];refine⟨_,k1,?_⟩;simp[abC];refine⟨_,sw 0,?_⟩;simp[abA];refine⟨_,AA (hG 0),?_⟩;simp[abz];refine⟨_,k2,?_⟩;simp[aby];refine⟨_,sw 1,?_⟩;simp[abx];refine⟨_,AA (hG 1),?_⟩;simp[abw];refine⟨_,k3,?_⟩;simp[abv];refine⟨_,sw 0,?_⟩;simp[abu];refine⟨_,AA (hG 0),?_⟩;simp[abt];refine⟨_,k4,?_⟩;simp[abr];refine⟨_,Iw ⟨⟨true,1⟩,0,[0],0⟩ (by decide),?_⟩;simp[abq];refine⟨_,Iw ⟨⟨true,1⟩,0,[1,0],0⟩ (by decide),?_⟩;simp[abo];refine⟨_,Iw ⟨⟨false,0⟩,1,[1],0⟩ (by decide),?_⟩;simp[abn];refine⟨_,t4,?_⟩;simp[abm];refine⟨_,n4,?_⟩;simp[abl];refine⟨_,t1,?_⟩;simp[abk];refine⟨_,t3,?_⟩;simp[abj];refine⟨_,sw 1,?_⟩;simp[abi];refine⟨_,AA (hG 1),?_⟩;simp[abh];refine⟨_,aqM,?_⟩;simp[abg];refine⟨_,OM [17] (by decide),?_⟩;simp[abf];refine⟨_,sw 0,?_⟩;simp[abM];refine⟨_,AA (hG 0),?_⟩;simp[abL];refine⟨_,pl,?_⟩;simp[abK];refine⟨_,OM [1,0,1,0,0] (by decide),?_⟩;simp[abJ];refine⟨_,sw 0,?_⟩;simp[abI];refine⟨_,m1,?_⟩;simp[abH];refine⟨_,sw 0,?_⟩;simp[abB];refine⟨_,m2,?_⟩;simp[abp];refine⟨_,sw 0,?_⟩;simp[abe];refine⟨_,m3,?_⟩;rfl
end Rm
namespace Rm
open Go Go.Proofs Cx
end Rm
namespace Rm
open Go Go.Proofs Cx
theorem afv {n:Nat}{f:Nat→Int}(h:kI n f=0)(k:Nat)(hk:k<n):f k=0:=Uu.1 h k hk
theorem adN {r:Realm}(h:l6 r=0)(k:Nat)(hk:k<r.orders.length):oS r.orders[k]=true:=by
 unfold l6 at h;rw[P2] at h;have h1:=h (eK (eB r) 20 (mC r)) (by simp);unfold eK at h1;split at h1
 ·cases h1
 have h2:=afv h1 k (by simpa [eB] using hk);have h3:=(BS h2).2;unfold mC at h3;simpa [hk] using h3
theorem agx {r:Realm}(hs:Small r)(h:l6 r=0):AF r:=by
 intro o ho;obtain⟨k,hk,rfl⟩:=mO ho;have h1:=adN h k hk;obtain⟨hc,_⟩:=hs.order _ ho;refine⟨by omega,fun ch lx=>?_⟩;unfold oS at h1;simp only[aj] at h1;obtain⟨j,hj,rfl⟩:=mO lx;have h2:=xn.1 h1.1 j hj;simpa [aL,hj] using h2
theorem agy {r:Realm}(hs:Small r)(h:l6 r=0):xh r:=by
 refine⟨by have:=hs.halts;omega,fun x hx=>?_⟩;obtain⟨k,hk,rfl⟩:=mO hx;unfold l6 at h;rw[P2] at h;have h1:=h (nC r) (by simp);unfold nC at h1;split at h1
 ·cases h1
 split at h1
 ·cases h1
 split at h1
 ·cases h1
 split at h1
 ·rename_i aN;have h2:=xn.1 aN k hk;simp[tc,wi,aL,hk] at h2;omega
 ·cases h1
structure Good (r:Realm) (f:File):Prop where
 right:Right r
 rightD:RightD r
 few:FewS f
theorem agz {r:Realm}{f:File}(hr:r.OK)(h:yE r f=true):Good r f:=by
 unfold yE rl at h;simp only[aj,decide_eq_true_eq] at h;obtain⟨⟨⟨h1,h2⟩,h3⟩,h4⟩:=h;have hs:=Ld hr h1;refine⟨⟨agx hs h4,by have:=hs.orders;omega,fun o ho=>?_⟩,⟨hs,agy hs h4⟩,?_⟩
 ·have:=hs.order o ho;refine⟨?_,by omega⟩;exact hr.2.2.2.2.1.2 o ho
 ·simp[BO] at h2;exact⟨by omega,by omega,by omega,by omega⟩
end Rm
namespace Rm
open Go Go.Proofs Cx
theorem adi (r:Realm)(hr:r.OK)(f:File):ak T 7 [bl r,ga f] (.bool (yE r f)):=by
 refine .of_tree rfl (lA 82 (by kernel_rfl)) aoQ ?_;simp[QD];refine⟨_,amT r f hr,?_⟩;cases e1:rl r f
 ·simp[yE,e1]
 have hs:Small r:=Ld hr (by simp only[rl,aj] at e1;exact e1.1.1);simp;refine⟨_,amI r hs,?_⟩;simp[yE,e1]
end Rm
namespace Rm
open Go Go.Proofs Cx
end Rm
namespace Rm
open Go Go.Proofs Cx
end Rm
namespace Rm
open Go Go.Proofs Cx
end Rm
namespace Rm
open Go Go.Proofs Cx
end Rm
namespace Rm
open Go Cx
end Rm
namespace Rm
open Go Go.Proofs Cx
end Rm
namespace Rm
open Go Go.Proofs Cx
end Rm
namespace Rm
open Go Go.Proofs Cx
@[simp] theorem av7:D.none.b=false:=_root_.id rfl
end Rm
namespace Rm
open Go Go.Proofs Cx
def an4 (f:File)(i part:Int):Bool:=decide (i=0)||decide ((nG f i).part=part)
end Rm
namespace Rm
open Go Go.Proofs Cx
def acx (a:Act)(to at_ own:Bool):Bool:=
 if a.kind=0∨a.kind=1∨a.kind=2 then(to&&decide (a.at_=-1))&&decide (a.sum=0)
 else if a.kind=3∨a.kind=4∨a.kind=5 then((to&&decide (a.at_=-1))&&wi a.sum 0 1099511627776)&&wi a.form 0 1
 else if a.kind=6 then(to&&own)&&wi a.sum 1 1099511627776
 else if a.kind=9 then(decide (a.to=-1)&&own)&&decide (a.sum=0)
 else(decide (a.to=-1)&&at_)&&decide (a.sum=0)
def Tl (f:File)(a:Act):Bool:=aL a.at_ f.signs.length&&an4 f a.at_ a.part
def amj (f:File)(a:Act):Bool:=Tl f a&&decide ((nG f a.at_).who=a.who)
def acw (r:Realm)(f:File)(a:Act):Bool:=
 if aL a.who r.firms.length=false∨(¬a.kind=4∧¬a.form=0) then false else acx a (aL a.to r.firms.length) (Tl f a) (amj f a)
def ajZ (f:File)(i:Nat)(a:Act):Int:=
 let x:=if a.at_=-1 then f.bill.day else max f.bill.day (nG f a.at_).day
 if i=0 then x else max x (f.acts.getD (i-1) default).day
end Rm
namespace Rm
open Go Go.Proofs Cx
def Ta (x y:Fact):Prop:=x.at_<y.at_∨(x.at_=y.at_∧x.kind<y.kind)
instance (x y:Fact):Decidable (Ta x y):=by unfold Ta;infer_instance
end Rm
namespace Rm
open Go Go.Proofs Cx
end Rm
namespace Rm
open Go Go.Proofs Cx
structure EP (r:Realm) (f:File) (i:Nat) (a:Act):Prop where
 part:0≤a.part∧a.part≤f.bill.parts-1
 city:0≤a.city∧a.city<r.cities.length
 kind:0≤a.kind∧a.kind≤9
 fits:acw r f a=true
 day:ajZ f i a≤a.day∧a.day≤100000
end Rm
namespace Rm
open Go Go.Proofs Cx
theorem R1 {α:Type}(key:α→Int){x y:Int}(oJ:x≤y):∀(l:List α),(l.takeWhile (fun a=>decide (key a≤y))).takeWhile (fun a=>decide (key a≤x))=l.takeWhile (fun a=>decide (key a≤x))
 |[]=>rfl
 |a::l=>by
  by_cases h:key a≤x
  ·have h2:key a≤y:=by omega
   simp only[E1,h,h2,decide_true,if_true];rw[R1 key oJ l]
  ·by_cases h2:key a≤y
   ·simp[E1,h,h2]
   ·simp[E1,h,h2]
theorem abd {α:Type}(key:α→Int){x y:Int}(oJ:x≤y):∀(l:List α),(l.takeWhile (fun a=>decide (key a≤x))).length≤(l.takeWhile (fun a=>decide (key a≤y))).length
 |[]=>by simp
 |a::l=>by
  by_cases h:key a≤x
  ·have h2:key a≤y:=by omega
   have:=abd key oJ l;simp[E1,h,h2];omega
  ·simp[E1,h]
theorem To (f:File){x y:Int}(oJ:x≤y):dX (dX f y) x=dX f x:=by
 have h1:su x (su y f.signs)=su x f.signs:=R1 (fun a:Sign=>a.day) oJ f.signs;have h2:EI x (EI y f.acts)=EI x f.acts:=R1 (fun a:Act=>a.day) oJ f.acts;have hl:(su x f.signs).length≤(su y f.signs).length:=abd (fun a:Sign=>a.day) oJ f.signs;unfold dX;simp only[h1,h2,List.filter_filter]
 congr 1
 ·apply SM;intro a _;simp[nW];omega
 ·apply SM;intro a _;simp[pU,aL];omega
end Rm
namespace Rm
open Go Go.Proofs Cx
theorem ams {r:Realm}(hr:Right r)(aw q:Int)(c:Case):(jK r aw q c).path.length≤100001:=by
 have:(jK r aw q c).path=(eI r aw q c).1.path:=by unfold jK;split<;>rfl
 rw[this];unfold eI;split
 ·simp[zq]
 split
 ·simp[zq]
 split
 ·simp[zq]
 ·have h1:=WL r aw q (iO r aw (dw c));have h2:=hr.len;show(iL r aw q (iO r aw (dw c))).1.length≤_;omega
theorem ab0 (r:Realm)(hr:r.OK)(aw q:Int)(c:Case)(later:Int):ak T 4 [bl r,.int aw,.int q,dI c,.int later] (.bool true):=by
 refine .of_tree rfl (lA 0 (by kernel_rfl)) aoO ?_;simp[QB];refine⟨_,anN,_,adi r hr c.file,?_⟩;cases hg:yE r c.file
 ·simp
 have G:=agz hr hg;simp;have LS:FewS (dX c.file (max c.day later)):=G.few.at_ _;have hle:c.day≤max c.day later:=by omega
 have Mo:dw {c with file:=dX c.file (max c.day later)}=dw c:=by
  unfold dw;simp only[To c.file hle]
 have th:eI r aw q {c with file:=dX c.file (max c.day later)}=eI r aw q c:=by
  unfold eI;rw[Mo]
 have ahd:jK r aw q {c with file:=dX c.file (max c.day later)}=jK r aw q c:=by
  unfold jK;rw[th]
 have ais:tO r aw q {c with file:=dX c.file (max c.day later)}=tO r aw q c:=by
  unfold tO;rw[th]
 have aii:oM r aw (dX c.file (max c.day later)) c.day=oM r aw c.file c.day:=by
  unfold oM;rw[To c.file hle];rfl
 have h1:=PO c.file (max c.day later) (by have:=G.few.signs;omega) (by have:=G.few.acts;omega) (by have:=G.few.alters;omega) (by have:=G.few.facts;omega);have h2:=E7 r G.right aw q c G.few;have h3:=E7 r G.right aw q {c with file:=dX c.file (max c.day later)} LS;rw[ahd] at h3;have h4:=Th r G.right aw q c G.few;have h5:=Th r G.right aw q {c with file:=dX c.file (max c.day later)} LS;rw[ais] at h5;have h6:=JS r G.right G.rightD aw c.file c.day G.few;have h7:=JS r G.right G.rightD aw (dX c.file (max c.day later)) c.day LS;rw[aii] at h7;have hS:=Iw (jK r aw q c) (ij (ams G.right aw q c) (by omega));have hI:=OM (tO r aw q c) (by have:=alq r aw q c;omega);have aij:(if c.day<later then D.int later else D.int c.day)=D.int (max c.day later):=by
  split
  ·rw[show max c.day later=later by omega]
  ·rw[show max c.day later=c.day by omega]
 rw[aij];refine⟨_,h1,_,h2,_,h3,_,hS,?_⟩;simp;refine⟨_,h4,_,h5,_,hI,?_⟩;simp;exact⟨_,h6,_,h7,rfl⟩
end Rm
