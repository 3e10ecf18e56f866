/-
  Shared texts of this claim.
-/
import Derived.Test.YtbagcfebdgiihaaGreatDoorTAN
set_option linter.unusedSimpArgs false
set_option linter.unusedVariables false
noncomputable section
namespace Rm
open Go Go.Proofs Cx
def lF (n:Nat)(g:Nat→Bool):Int:=if(List.range n).findIdx g<n then((List.range n).findIdx g:Nat) else-1
theorem Cb (n:Nat)(g:Nat→Bool):(lF n g=-1∧∀k,k<n→g k=false)∨∃k:Nat,k<n∧lF n g=k∧g k=true∧∀i,i<k→g i=false:=by
 unfold lF;split
 ·rename_i h;refine .inr ⟨_,h,rfl,?_,fun i hi=>?_⟩
  ·have:=List.findIdx_getElem (p:=g) (xs:=List.range n) (w:=by simpa using h);simpa using this
  ·have:=List.not_of_lt_findIdx (p:=g) (xs:=List.range n) hi;simpa using this
 ·rename_i h;refine .inl ⟨rfl,fun k hk=>?_⟩;have:=List.not_of_lt_findIdx (p:=g) (xs:=List.range n) (i:=k) (by omega);simpa using this
theorem MQ {n:Nat}{g:Nat→Bool}(h:∀k,k<n→g k=false):lF n g=-1:=by
 rcases Cb n g with⟨h1,_⟩|⟨k,hk,_,h2,_⟩
 ·exact h1
 ·rw[h k hk] at h2;cases h2
theorem MR {n k:Nat}{g:Nat→Bool}(hk:k<n)(h:g k=true)(hj:∀i,i<k→g i=false):lF n g=k:=by
 rcases Cb n g with⟨_,h1⟩|⟨m,hm,h1,h2,h3⟩
 ·rw[h1 k hk] at h;cases h
 ·rcases Nat.lt_trichotomy m k with h4|h4|h4
  ·rw[hj m h4] at h2;cases h2
  ·rw[h1,h4]
  ·rw[h3 k h4] at h;cases h
theorem WA (n:Nat)(g:Nat→Bool):decide (0≤lF n g)=(List.range n).any g:=by
 rcases Cb n g with⟨h1,h2⟩|⟨m,hm,h1,h2,h3⟩
 ·rw[h1]
  symm
  simp;exact h2
 ·rw[h1];simp;exact⟨m,hm,h2⟩
theorem abz (l:List Rule)(f:Nat)(caps:List D)(g:Nat→Bool)(hg:∀k (hk:k<l.length),ak T f (qg l[k]::caps) (.bool (g k)))(hl:l.length≤4294967296):
 ak T 188 [rules l,.clo f caps] (.int (lF l.length g)):=by
 refine .of_tree rfl (lA 80 (by kernel_rfl)) aqX ?_;simp[RI];refine .scan l.length (fun k=>g k=false) (fun k=>[.int 0,.int k]) (fun _=>[]) ?_ (fun k hk hj ho=>?_) (fun k hk hj ho=>?_) (fun hj=>?_)
 ·simp
 ·have hw:=bA hk hl;simp[PG,Dc,hk,hw];refine⟨_,_,⟨rfl,rfl⟩,_,hg k hk,?_⟩;simp[ho,hw]
 ·have he:=MR hk (by simpa using ho) hj;simp[PG,Dc,hk,he];refine⟨_,_,⟨rfl,rfl⟩,_,hg k hk,?_⟩;simp[ho]
 ·have he:=MQ hj;simp[PG,Dc,he]
theorem abA (l:List Int)(f:Nat)(caps:List D)(g:Nat→Bool)(hg:∀k (hk:k<l.length),ak T f (.int l[k]::caps) (.bool (g k)))(hl:l.length≤4294967296):
 ak T 247 [ints l,.clo f caps] (.int (lF l.length g)):=by
 refine .of_tree rfl (lA 75 (by kernel_rfl)) aqY ?_;simp[RJ];refine .scan l.length (fun k=>g k=false) (fun k=>[.int 0,.int k]) (fun _=>[]) ?_ (fun k hk hj ho=>?_) (fun k hk hj ho=>?_) (fun hj=>?_)
 ·simp
 ·have hw:=bA hk hl;simp[PH,De,hk,hw,ints];refine⟨_,_,⟨rfl,rfl⟩,_,hg k hk,?_⟩;simp[ho,hw]
 ·have he:=MR hk (by simpa using ho) hj;simp[PH,De,hk,he,ints];refine⟨_,_,⟨rfl,rfl⟩,_,hg k hk,?_⟩;simp[ho]
 ·have he:=MQ hj;simp[PH,De,he,ints]
theorem aby (l:List Alter)(f:Nat)(caps:List D)(g:Nat→Bool)(hg:∀k (hk:k<l.length),ak T f (m5 l[k]::caps) (.bool (g k)))(hl:l.length≤4294967296):
 ak T 246 [alters l,.clo f caps] (.int (lF l.length g)):=by
 refine .of_tree rfl (lA 66 (by kernel_rfl)) aqW ?_;simp[RH];refine .scan l.length (fun k=>g k=false) (fun k=>[.int 0,.int k]) (fun _=>[]) ?_ (fun k hk hj ho=>?_) (fun k hk hj ho=>?_) (fun hj=>?_)
 ·simp
 ·have hw:=bA hk hl;simp[PF,Db,hk,hw];refine⟨_,_,⟨rfl,rfl⟩,_,hg k hk,?_⟩;simp[ho,hw]
 ·have he:=MR hk (by simpa using ho) hj;simp[PF,Db,hk,he];refine⟨_,_,⟨rfl,rfl⟩,_,hg k hk,?_⟩;simp[ho]
 ·have he:=MQ hj;simp[PF,Db,he]
theorem abt (l:List Int)(f:Nat)(caps:List D)(g:Nat→Bool)(hg:∀k (hk:k<l.length),ak T f (.int l[k]::caps) (.bool (g k)))(hl:l.length≤4294967296):
 ak T 222 [ints l,.clo f caps] (.bool ((List.range l.length).any g)):=by
 refine .of_tree rfl (lA 74 (by kernel_rfl)) aqT ?_;simp[RE];refine⟨_,abA l f caps g hg hl,?_⟩;have:=WA l.length g;simp[←this]
theorem abr (l:List Alter)(f:Nat)(caps:List D)(g:Nat→Bool)(hg:∀k (hk:k<l.length),ak T f (m5 l[k]::caps) (.bool (g k)))(hl:l.length≤4294967296):
 ak T 217 [alters l,.clo f caps] (.bool ((List.range l.length).any g)):=by
 refine .of_tree rfl (lA 65 (by kernel_rfl)) aqS ?_;simp[RD];refine⟨_,aby l f caps g hg hl,?_⟩;have:=WA l.length g;simp[←this]
def xE (cs:List Cell)(t:Tm):Cell:=if(lW t).2=0 then bJ 8 cs t else dT
theorem adl {t:Tm}(h:(lW t).2=0):cJ 8 t≤60∧cm 8 t=((lW t).1,0):=by
 unfold lW at h ⊢;split at h
 ·cases h
 ·rename_i hm;rw[if_neg hm];exact⟨by omega,by rw[←h]⟩
theorem apb (t:Tm)(cs:List Cell)(ht:t.OK):ak T 131 [dm t,cells cs] (cM (xE cs t)):=by
 refine .of_tree rfl (lA 88 (by kernel_rfl)) aq9 ?_;simp[RU,xE];refine⟨_,aa5 t ht,?_⟩;by_cases h:(lW t).2=0
 ·obtain⟨h1,h2⟩:=adl h;simp[h];refine⟨_,aa7 8 cs t _ ht h1 h2,?_⟩;simp
  try rfl
 ·simp[h]
  try rfl
def Nw:List Int:=[6,7,10,12,13,14,15,16,20,21]
def nP (ask:Int):Int×Bool:=if ask<0∨22≤ask then(0,false) else if hasB Nw ask then(0,true) else(1,true)
theorem Oq (ask:Int):ak T 127 [.int ask] (.tup [.int (nP ask).1,.bool (nP ask).2]):=by
 refine .of_tree rfl (lA 70 (by kernel_rfl)) ap8 ?_;simp[QS,nP];by_cases h0:ask<0
 ·simp[h0]
 by_cases h1:22≤ask
 ·simp[h0,h1]
 simp[h0,h1];refine⟨_,tj Nw ask (by decide),?_⟩;cases h:hasB Nw ask<;>simp[h]
def Hf:Tm:=⟨0,0,[]⟩
def sQ (o:Order)(ask:Int)(k:Nat):Bool:=decide ((o.rules.getD k default).ask=ask)
def Du (o:Order)(i:Int):Tm:=(o.rules.getD i.toNat default).term
def findF (o:Order)(ask:Int):Tm×Int:=
 if(nP ask).2=false then(Hf,1) else if lF o.rules.length (sQ o ask)<0 then(Hf,4) else
    if(lW (Du o (lF o.rules.length (sQ o ask)))).2≠0∨(lW (Du o (lF o.rules.length (sQ o ask)))).1≠(nP ask).1 then(Hf,11) else(Du o (lF o.rules.length (sQ o ask)),0)
theorem aaI {o:Order}(ho:o.OK){m:Nat}(hm:m<o.rules.length):o.rules[m].term.OK:=(ho.2.2 _ (cr hm)).2
theorem Nv:Hf.OK:=by
 exact .mk 0 0 [] (by unfold aY;omega) (by unfold aY;omega) (by decide) (fun _ h=>by cases h)
theorem afl {o:Order}(ho:o.OK)(ask:Int):(findF o ask).1.OK:=by
 unfold findF;split
 ·exact Nv
 split
 ·exact Nv
 split
 ·exact Nv
 ·rename_i h _;rcases Cb o.rules.length (sQ o ask) with⟨h1,h2⟩|⟨m,hm,h1,h2,h3⟩
  ·exact absurd (by rw[h1];decide) h
  ·rw[h1];simp[Du,hm];exact aaI ho hm
theorem afj (r:Rule)(ask:Int):ak T 189 [qg r,.ref (.int ask)] (.bool (decide (r.ask=ask))):=by
 refine .of_tree rfl (lA 79 (by kernel_rfl)) ap9 ?_;simp[QU]
theorem am1 (o:Order)(ask:Int)(ho:o.OK)(hl:o.rules.length≤4294967296):ak T 130 [jr o,.int ask] (.tup [dm (findF o ask).1,.int (findF o ask).2]):=by
 refine .of_tree rfl (lA 78 (by kernel_rfl)) aqa ?_;simp[QT,findF];refine⟨_,Oq ask,?_⟩;cases h0:(nP ask).2
 ·simp[h0]
  try rfl
 simp[h0];refine⟨_,abz o.rules 189 [.ref (.int ask)] (sQ o ask) (fun k hk=>by simpa [sQ,hk] using afj o.rules[k] ask) hl,?_⟩;rcases Cb o.rules.length (sQ o ask) with⟨h1,h2⟩|⟨m,hm,h1,h2,h3⟩
 ·rw[h1];simp
  try rfl
 ·rw[h1];have BD:¬((m:Int)<0):=by omega
  have htm:o.rules[m].term.OK:=aaI ho hm;simp[hm,Du,BD];refine⟨_,aa5 _ htm,?_⟩;by_cases h4:(lW o.rules[m].term).2=0<;>by_cases h5:(lW o.rules[m].term).1=(nP ask).1<;>simp[h4,h5]<;>try rfl
def wx (o:Order)(ask:Int)(cs:List Cell):Cell×Int:=
 if(findF o ask).2≠0 then(dT,(findF o ask).2) else
    (if(nP ask).1=0∧(xE cs (findF o ask).1).known=true then⟨true,min (max (xE cs (findF o ask).1).n 0) 20000⟩ else xE cs (findF o ask).1,0)
theorem am0 (o:Order)(ask:Int)(cs:List Cell)(ho:o.OK)(hl:o.rules.length≤4294967296):ak T 85 [jr o,.int ask,cells cs] (.tup [cM (wx o ask cs).1,.int (wx o ask cs).2]):=by
 refine .of_tree rfl (lA 77 (by kernel_rfl)) ap7 ?_;simp[QR];refine⟨_,am1 o ask ho hl,?_⟩;have hf:(findF o ask).1.OK:=afl ho ask;by_cases h:(findF o ask).2=0
 ·simp[h,wx];refine⟨_,apb _ cs hf,_,Oq ask,?_⟩;generalize xE cs (findF o ask).1=c;obtain⟨kn,n⟩:=c;by_cases h1:(nP ask).1=0
  ·cases kn
   ·simp[h1,cM]
   ·by_cases h2:n<0
    ·have:min (max n 0) 20000=0:=by omega
     simp[h1,cM,h2,this];rfl
    ·by_cases h3:20000<n
     ·have:min (max n 0) 20000=20000:=by omega
      simp[h1,cM,h2,h3,this];rfl
     ·have:min (max n 0) 20000=n:=by omega
      simp[h1,cM,h2,h3,this];rfl
  ·simp[h1,cM]
 ·simp[h,wx]
  try rfl
end Rm
namespace Rm
open Go Go.Proofs Cx
theorem aav (b:Bool):ak T 219 [.bool b] (cM (fU b)):=by
 refine .of_tree rfl (lA 68 (by kernel_rfl)) aqP ?_;cases b<;>simp[RA,fU]<;>rfl
def FH (kind sign:Int)(x:Fact):Bool:=decide (x.kind=kind)&&decide (x.at_=sign)
def jT (f:File)(kind sign:Int):Cell:=match f.facts.find? (FH kind sign) with|none=>dT|some x=>fU (decide (x.n≠0))
theorem AR {α:Type}{p:α→Bool}:∀{l:List α} {k:Nat} (hk:k<l.length),p l[k]=true→(∀j (hj:j<k),p (l[j]'(by omega))=false)→l.find? p=some l[k]
 |a::l,0,hk,h,hj=>by simp at h;simp[h]
 |a::l,k+1,hk,h,hj=>by
  have h0:=hj 0 (by omega);simp at h0;simp only[List.find?_cons,h0,List.getElem_cons_succ];exact AR (by simpa using hk) (by simpa using h) (fun j cC=>by simpa using hj (j+1) (by omega))
theorem FJ {α:Type}{p:α→Bool}{l:List α}(h:∀j (hj:j<l.length),p l[j]=false):l.find? p=none:=by
 rw[we];intro x hx;obtain⟨j,hj,rfl⟩:=eZ hx;rw[h j hj];decide
theorem Dn (f:File)(kind sign:Int)(hl:f.facts.length≤4294967296):ak T 220 [cd f,.int kind,.int sign] (cM (jT f kind sign)):=by
 refine .of_tree rfl (lA 69 (by kernel_rfl)) aqL ?_;simp[Rx];refine .scan f.facts.length (fun k=>FH kind sign (f.facts.getD k default)=false) (fun k=>[.int k]) (fun _=>[cM dT]) ?_ (fun k hk hj ho=>?_) (fun k hk hj ho=>?_) (fun hj=>?_)
 ·simp
 ·have hw:=bA hk hl;simp[hk,FH] at ho;by_cases h1:f.facts[k].kind=kind<;>by_cases h2:f.facts[k].at_=sign
  ·exact absurd h2 (ho h1)
  all_goals simp[Pz,C8,hk,hw,h1,h2]
 ·have hw:=bA hk hl;have hf:jT f kind sign=fU (decide (f.facts[k].n≠0)):=by
   unfold jT;rw[AR hk (by simpa [hk] using ho) (fun j cC=>by have:=hj j cC;simpa [show j<f.facts.length by omega] using this)]
  simp[hk,FH] at ho;simp[Pz,C8,hk,hw,ho,hf];refine⟨_,aav _,?_⟩;simp
  try rfl
 ·have hf:jT f kind sign=dT:=by
   unfold jT;rw[FJ (fun j cC=>by have:=hj j cC;simpa [cC] using this)]
  simp[Pz,C8,hf]
  try rfl
def fH (r:Realm)(c:Int):Int:=if aD c r.cities.length=true then(r.cities.getD c.toNat default).order else-1
theorem nK (r:Realm)(c:Int):ak T 181 [bq r,.int c] (.int (fH r c)):=by
 refine .of_tree rfl (lA 67 (by kernel_rfl)) aqy ?_;simp[Rj,fH];refine⟨_,eV c r.cities.length,?_⟩;cases h:aD c r.cities.length
 ·simp[h]
 ·simp[aD] at h;have h1:c.toNat<r.cities.length:=by omega
  simp[h,h1]
def Jk (day:Int)(l:List Sign):List Sign:=l.takeWhile fun s=>decide (s.day≤day)
def upA (day:Int)(l:List Act):List Act:=l.takeWhile fun s=>decide (s.day≤day)
def od (n:Nat)(a:Alter):Bool:=decide (a.at_≤(n:Int))
def qk (n:Nat)(x:Fact):Bool:=aD x.at_ n
def iP (f:File)(day:Int):File:=
 ⟨f.bill,Jk day f.signs,f.alters.filter (od (Jk day f.signs).length),upA day f.acts,f.facts.filter (qk (Jk day f.signs).length)⟩
theorem Ji {α:Type}(p:α→Bool):∀(l:List α),∃m,m≤l.length∧l.takeWhile p=l.take m∧(∀k (hk:k<l.length),k<m→p l[k]=true)∧(∀hk:m<l.length,p l[m]=false)
 |[]=>⟨0,by simp,by simp,fun k hk=>by simp at hk,fun hk=>by simp at hk⟩
 |a::l=>by
  by_cases h:p a=true
  ·obtain⟨m,h1,h2,h3,h4⟩:=Ji p l;refine⟨m+1,by simp;omega,by simp[h,h2],fun k hk hm=>?_,fun hk=>?_⟩
   ·cases k with
    |zero=>simpa using h
    |succ k=>simpa using h3 k (by simpa using hk) (by omega)
   ·simpa using h4 (by simpa using hk)
  ·refine⟨0,by simp,by simp[h],fun k hk hm=>by omega,fun hk=>by simpa using h⟩
theorem I2 {α:Type}(p:α→Bool)(l:List α){k:Nat}(hk:k<l.length):(l.take (k+1)).filter p=(l.take k).filter p++if p l[k] then[l[k]] else[]:=by
 rw[fL hk,DU]
 congr 1
 cases h:p l[k]<;>simp[h]
def zM (b:Bill)(w x y z:D):D:=.agg [.int b.drawer,.int b.drawee,.int b.payee,.int b.sum,.int b.currency,.int b.tenor.kind,.int b.tenor.n,.int b.tenor.unit,.int b.day,.int b.city,.int b.pay,.int b.need,.int b.rate,.int b.flags,.int b.parts,w,x,y,z]
def kA {α:Type}(l:List α):D:=match l with|[]=>.list []|_=>.none
@[simp] theorem awZ {α:Type}:kA ([]:List α)=.list []:=rfl
@[simp] theorem awY {α:Type}(l:List α)(x:α):kA (l++[x])=.none:=by cases l<;>rfl
theorem PU (f:File)(day:Int)(h1:f.signs.length≤4294967295)(h2:f.acts.length≤4294967295)(h3:f.alters.length≤4294967295)(h4:f.facts.length≤4294967295):ak T 29 [cd f,.int day] (cd (iP f day)):=by
 refine .of_tree rfl (lA 57 (by kernel_rfl)) aqK ?_;simp[Rw];obtain⟨m,hm,hS,U8,xM⟩:=Ji (fun s:Sign=>decide (s.day≤day)) f.signs;obtain⟨n,hn,hA,hA1,hA2⟩:=Ji (fun s:Act=>decide (s.day≤day)) f.acts;refine aH.forRounds m (fun k=>[.int k]) (fun k=>[signs (f.signs.take k),zM f.bill (kA (f.signs.take k)) (.list []) (.list []) (.list [])]) ?_ (fun k hk=>?_) ?_
 ·simp[zM,signs]
  try rfl
 ·have bL:k<f.signs.length:=by omega
  have hw:=bA bL (by omega);have hd:=U8 k bL hk;simp at hd;have fB:¬day<f.signs[k].day:=by omega
  have hle:(k:Int)+1≤4294967296:=by omega
  have ht:=fL bL;rw[ht];have hlen:(f.signs.take k).length=k:=by simp;omega
  generalize f.signs.take k=A at*;simp[Pv,C4,bL,hw,fB,hlen];exact⟨hle,by simp[signs],rfl⟩
 have hSl:(f.signs.take m).length≤4294967295:=by rw[gp];omega
 have hAt:iP f day=⟨f.bill,f.signs.take m,f.alters.filter (od (f.signs.take m).length),f.acts.take n,f.facts.filter (qk (f.signs.take m).length)⟩:=by
  unfold iP Jk upA;rw[hS,hA]
 rw[hAt];generalize f.signs.take m=S at*;have hAl:(f.acts.take n).length≤4294967295:=by rw[gp];omega
 by_cases eA:m<f.signs.length
 case' pos=>
  have hd:=xM eA;simp at hd;simp[Pv,C4,eA,hd];generalize D.bool true=bb
 case' neg=>
  have Bz:m=f.signs.length:=by omega
  simp[Pv,C4,eA,Bz];generalize D.bool false=bb
 all_goals
  refine aH.forRounds n (fun k=>[.int k]) (fun k=>[acts (f.acts.take k),zM f.bill (kA S) (.list []) (kA (f.acts.take k)) (.list [])]) ?_ (fun k hk=>?_) ?_
  ·simp[acts]
  ·have bL:k<f.acts.length:=by omega
   have hw:=bA bL (by omega);have hd:=hA1 k bL hk;simp at hd;have fB:¬day<f.acts[k].day:=by omega
   have hle:(k:Int)+1≤4294967296:=by omega
   have ht:=fL bL;rw[ht];have hlen:(f.acts.take k).length=k:=by simp;omega
   generalize f.acts.take k=A at*;simp[Pw,C5,bL,hw,fB,hlen];exact⟨hle,by simp[acts],rfl⟩
  generalize f.acts.take n=A at*;by_cases jZ:n<f.acts.length
  case' pos=>
   have hd:=hA2 jZ;simp at hd;simp[Pw,C5,jZ,hd];generalize D.bool true=bc
  case' neg=>
   have nk:n=f.acts.length:=by omega
   simp[Pw,C5,jZ,nk];generalize D.bool false=bc
  all_goals
   refine aH.forRounds f.alters.length (fun k=>[.int k]) (fun k=>[zM f.bill (kA S) (kA ((f.alters.take k).filter (od S.length))) (kA A) (.list []),alters ((f.alters.take k).filter (od S.length))]) ?_ (fun k hk=>?_) ?_
   ·simp[alters]
   ·have hw:=bA hk (by omega);have ht:=I2 (od S.length) f.alters hk;rw[ht];have hlen:((f.alters.take k).filter (od S.length)).length≤k:=fW (nW _ _) (by simp;omega);generalize (f.alters.take k).filter (od S.length)=B at*;by_cases hd:f.alters[k].at_≤(S.length:Int)
    ·simp[Px,C6,od,hk,hw,hd];exact⟨by omega,rfl,by simp[alters]⟩
    ·simp[Px,C6,od,hk,hw,hd]
   simp[Px,C6];generalize f.alters.filter (od S.length)=B at*;refine aH.forRounds f.facts.length (fun k=>[.int k]) (fun k=>[zM f.bill (kA S) (kA B) (kA A) (kA ((f.facts.take k).filter (qk S.length))),facts ((f.facts.take k).filter (qk S.length))]) ?_ (fun k hk=>?_) ?_
   ·simp[facts]
   ·have hw:=bA hk (by omega);have ht:=I2 (qk S.length) f.facts hk;rw[ht];have hlen:((f.facts.take k).filter (qk S.length)).length≤k:=fW (nW _ _) (by simp;omega);generalize (f.facts.take k).filter (qk S.length)=C at*;cases hd:aD f.facts[k].at_ S.length
    ·simp[Py,C7,qk,hk,hw,hd];refine⟨_,nL _ _,?_⟩;simp[hd,hw]
    ·simp[Py,C7,qk,hk,hw,hd];refine⟨_,nL _ _,?_⟩;simp[hd,hw];exact⟨by omega,rfl,by simp[facts]⟩
   simp[Py,C7];rfl
end Rm
namespace Rm
open Go Go.Proofs Cx
def yD:List Int→Int
 |[]=>-1
 |x::l=>l.foldl min x
theorem abM (x:Int)(l:List Int)(hl:l.length<4294967296):ak T 125 [ints (x::l)] (.int (yD (x::l))):=by
 refine .of_tree rfl (lA 101 (by kernel_rfl)) aq1 ?_;have h0:¬((l.length:Int)+1<1):=by omega
 simp[RM,h0,yD,ints];refine aH.forRounds l.length (fun k=>[.int ((l.take k).foldl min x),.int ((k:Int)+1)]) (fun k=>[]) ?_ (fun k hk=>?_) ?_
 ·simp
 ·have hw:IntKind.i64.wrap ((k:Int)+1+1)=(k:Int)+1+1:=bE (by omega);rw[fL hk,wg];generalize (l.take k).foldl min x=y;have ht:((k:Int)+1).toNat=k+1:=by omega
  have af:(k:Int)+1<(l.length:Int)+1:=by omega
  simp[aar,Iz,hk,hw,ht,af];refine⟨by omega,?_⟩;by_cases h:l[k]<y
  ·simp[h];omega
  ·simp[h];omega
 ·simp[aar,Iz]
def lM (f:File)(n:Nat):List Int:=if f.bill.tenor.kind=1 then((f.signs.take n).filter (fun s=>decide (s.kind=1))).map (·.day) else[]
def ke (f:File)(n:Nat):List Int:=if f.bill.tenor.kind=1 then((f.acts.take n).filter (fun s=>decide (s.kind=1))).map (·.day) else[]
def DA (f:File)(a:Act):Bool:=decide (f.bill.tenor.kind=0)&&decide (a.kind=2)
def vH (f:File):Int:=match f.acts.find? (DA f) with|some a=>a.day|none=>yD (lM f f.signs.length++ke f f.acts.length)
theorem aog (f:File)(h1:f.signs.length≤100000)(h2:f.acts.length≤100000):ak T 83 [cd f] (.int (vH f)):=by
 refine .of_tree rfl (lA 100 (by kernel_rfl)) aqM ?_;simp[Ry];refine aH.forRounds f.signs.length (fun k=>[.none,.int k]) (fun k=>[ints (lM f k)]) ?_ (fun k hk=>?_) ?_
 ·simp[lM,ints]
 ·have hw:=bA hk (by omega);have hs:lM f (k+1)=lM f k++if f.bill.tenor.kind=1∧f.signs[k].kind=1 then[f.signs[k].day] else[]:=by
   unfold lM;by_cases h:f.bill.tenor.kind=1
   ·simp only[if_pos h,I2 _ _ hk,ki,h,true_and]
    congr 1
    by_cases h':f.signs[k].kind=1<;>simp[h']
   ·simp[h]
  have hlen:(lM f k).length≤k:=by
   unfold lM;split
   ·rw[dM];exact fW (nW _ _) (by simp;omega)
   ·simp
  rw[hs];generalize lM f k=A at*;by_cases hc:f.bill.tenor.kind=1∧f.signs[k].kind=1
  ·simp[PA,C9,hk,hw,hc];exact⟨by omega,by simp[ints]⟩
  ·simp[PA,C9,hk,hw,hc]
 ·have hlS:(lM f f.signs.length).length≤100000:=by
   unfold lM;split
   ·rw[dM];exact fW (nW _ _) (by simp;omega)
   ·simp
  have hE:vH f=match f.acts.find? (DA f) with|some a=>a.day|none=>yD (lM f f.signs.length++ke f f.acts.length):=rfl
  generalize lM f f.signs.length=A at*;simp[PA,C9];refine aH.scan f.acts.length (fun k=>DA f (f.acts.getD k default)=false) (fun k=>[.int 0,.none,.int k]) (fun k=>[ints (A++ke f k)]) ?_ (fun k hk hj ho=>?_) (fun k hk hj ho=>?_) (fun hj=>?_)
  ·simp[ke,ints]
  ·have hw:=bA hk (by omega);have hs:ke f (k+1)=ke f k++if f.bill.tenor.kind=1∧f.acts[k].kind=1 then[f.acts[k].day] else[]:=by
        unfold ke;by_cases h:f.bill.tenor.kind=1
        ·simp only[if_pos h,I2 _ _ hk,ki,h,true_and]
         congr 1
         by_cases h':f.acts[k].kind=1<;>simp[h']
        ·simp[h]
   have hlen:(ke f k).length≤k:=by
        unfold ke;split
        ·rw[dM];exact fW (nW _ _) (by simp;omega)
        ·simp
   rw[hs];generalize ke f k=B at*;simp[DA,hk] at ho;by_cases hc:f.bill.tenor.kind=1∧f.acts[k].kind=1
   ·simp[Da,vD,hk,hw,hc];exact⟨by omega,by simp[ints]⟩
   ·have hn:¬(f.bill.tenor.kind=0∧f.acts[k].kind=2):=fun h=>ho h.1 h.2;simp[Da,vD,hk,hw,hc,hn]
  ·have hf:vH f=f.acts[k].day:=by
        rw[hE,AR hk (by simpa [hk] using ho) (fun j cC=>by have:=hj j cC;simpa [show j<f.acts.length by omega] using this)]
   simp[DA,hk] at ho;simp[Da,vD,hk,ho,hf]
  ·have hf:vH f=yD (A++ke f f.acts.length):=by
        rw[hE,FJ (fun j cC=>by have:=hj j cC;simpa [cC] using this)]
   have hlA:(ke f f.acts.length).length≤100000:=by
        unfold ke;split
        ·rw[dM];exact fW (nW _ _) (by simp;omega)
        ·simp
   rw[hf];have hL:(A++ke f f.acts.length).length≤200000:=by rw[kV];omega
   generalize A++ke f f.acts.length=L at*;cases L with
   |nil=>simp[Da,vD,yD,ints]
   |cons x l=>
    have az:¬((l.length:Int)+1=0):=by omega
    simp[Da,vD,az];exact abM x l (by simp at hL;omega)
end Rm
namespace Rm
open Go Go.Proofs Cx
def fX (g:Nat→Cell):D:=.list ((List.range 20).map fun i=>cM (g i))
theorem TQ {g g':Nat→Cell}(h:∀i,i<20→g i=g' i):fX g=fX g':=by
 unfold fX
 congr 1
 exact rj fun i hi=>by rw[h i (by simpa using hi)]
theorem TR (g:Nat→Cell)(k:Nat)(c:Cell):D.list ((fX g).l.set k (cM c))=fX (fun i=>if i=k then c else g i):=by
 unfold fX
 congr 1
 show((List.range 20).map fun i=>cM (g i)).set k (cM c)=_;apply SP
 ·simp
 ·intro i h1 h2;simp at h2;rw[List.getElem_set];by_cases h:k=i
  ·simp[h]
  ·have h':¬i=k:=fun e=>h e.symm;simp[h,h']
@[simp] theorem au5 (g:Nat→Cell):(fX g).l.length=20:=by
  show((List.range 20).map fun i=>cM (g i)).length=20;simp
theorem Em (g:Nat→Cell){k:Nat}(hk:k<20):(fX g).l[k]?.getD D.none=cM (g k):=by
 show((List.range 20).map fun i=>cM (g i))[k]?.getD D.none=cM (g k);simp[hk]
theorem adb (g:Nat→Cell){k:Nat}(hk:k<(fX g).l.length):(fX g).l[k]=cM (g k):=by
 have h:=Em g (k:=k) (by simpa using hk);rw[aZ hk] at h;exact h
theorem adf (g:Nat→Cell)(k:Nat)(c:Cell):(fX g).l.set k (cM c)=(fX (fun i=>if i=k then c else g i)).l:=congrArg D.l (TR g k c)
theorem ade (g:Nat→Cell):D.list (fX g).l=fX g:=rfl
@[simp] theorem ayx (x:Cell)(b:Bool)(n:Int):sU (cM x) 0 (D.agg [D.bool b,D.int n])=cM ⟨b,n⟩:=_root_.id rfl
def xF {α:Type}(l:List (Int×α))(val:α→Cell)(g0:Nat→Cell)(i:Nat):Cell:=match l.find? (fun p=>decide (p.1=(i:Int))) with|some p=>val p.2|none=>g0 i
def oY {α:Type}(enc:α→D)(p:Int×α):D:=.tup [.int p.1,enc p.2]
theorem Xa {α:Type}{J o:Nat}{ps cE:List Nat}{a:PC}{ρ:Env}{Q:Out→Prop}(l:List (Int×α))(enc:α→D)(val:α→Cell)(g0:Nat→Cell)
 (nd:∀p q,p∈l→q∈l→p.1=q.1→p=q) (P0:∀p,p∈l→0≤p.1) (he:ρ.o J=.tup [.list [],.map (l.map fun p=>(.int p.1,enc p.2))]) (h0:ρ.o o=fX g0)
 (step:∀p,p∈l→∀g done,aE T (nN [o] a) ((ρ.put ps (cE.map (oY enc p).tget) [o] [fX g]).setO J (.tup [.list (done++[oY enc p]),.map (l.map fun p=>(.int p.1,enc p.2))])) (fun y=>∃ρ',y=.next ρ'∧ρ'.o o=.list ((fX g).l.set p.1.toNat (cM (val p.2)))))
 (last:Q (.next (ρ.put [] [] [o] [fX (xF l val g0)]))):aH T (.meach J ps cE [o] a) ρ Q:=by
 have lx:gl (.map (l.map fun p=>((D.int p.1,enc p.2):D×D)))=l.map (oY enc):=by
  simp[gl,oY]
 refine .meachR _ he (fun done vo=>∃g:Nat→Cell,vo=[fX g]∧(∀p,p∈l→oY enc p∈done→g p.1.toNat=val p.2)∧∀i:Nat,(∀p,p∈l→oY enc p∈done→p.1≠i)→g i=g0 i) ⟨g0,by simp[h0],(fun p _ h=>by cases h),fun i _=>rfl⟩ (fun done x rest vo hp ⟨g,hv,l5,gx⟩=>?_) ⟨_,fun done hp vo ⟨g,hv,l5,gx⟩=>?_,last⟩
 ·subst hv;rw[lx] at hp;have hx:x∈l.map (oY enc):=hp.subset (by simp);obtain⟨p,eD,rfl⟩:=cX.mp hx;refine wu _ (fun y ⟨ρ',e,ho⟩=>⟨ρ',e,fun i=>if i=p.1.toNat then val p.2 else g i,by simp[ho,TR],fun q hq Mi=>?_,fun i hi=>?_⟩) (step p eD g done)
  ·have Mj:=P0 q hq;have np:=P0 p eD;by_cases h:q.1=p.1
   ·rw[nd q p hq eD h];simp
   ·show(if q.1.toNat=p.1.toNat then val p.2 else g q.1.toNat)=val q.2;rw[if_neg (by omega)];rcases cS.mp Mi with h1|h1
    ·exact l5 q hq h1
    ·simp[oY] at h1;exact absurd h1.1 h
  ·have np:=P0 p eD;have dH:=hi p eD (by simp);show(if i=p.1.toNat then val p.2 else g i)=g0 i;rw[if_neg (by omega)];exact gx i fun q hq Mi=>hi q hq (by simp[Mi])
 ·rw[hv,lx] at*
  congr 1
  refine TQ fun i hi=>?_;unfold xF;cases hf:l.find? (fun p=>decide (p.1=(i:Int))) with
  |some p=>
   have eD:=zG hf;have GJ:p.1=(i:Int):=by simpa using Jt hf
   have:=l5 p eD (hp.symm.subset (List.mem_map_of_mem eD));simp only;rw[←this,GJ];rfl
  |none=>
   refine gx i fun p eD _=>?_;have:=we.mp hf p eD;simpa using this
@[simp] theorem axn (a b:Int):dJ (D.int a) (D.int b)=decide (a=b):=by
  show((a==b)&&true)=decide (a=b);rw[Bool.and_true];by_cases h:a=b<;>simp[h]
def AV (n k:Int):Bool:=decide (cB .and .i64 n k≠0)
def yt (s:Sign)(due:Int):Int:=if due=-1 then 0 else s.day-due
def Tk (f:File)(sign:Int):Bool:=(List.range f.alters.length).any fun k=>decide ((f.alters.getD k default).at_≤sign)
def nl (c:Case):Int:=if c.holder<0 then 0 else c.holder
def sO (c:Case)(s:Sign):List (Int×Int):=[(0,c.file.bill.sum),(1,c.file.bill.parts),(2,c.file.bill.tenor.kind),(3,c.file.bill.rate),(4,s.kind),(5,c.defence),(6,yt s c.due)]
def sP (r:Realm)(c:Case)(s:Sign):List (Int×Bool):=[(7,AV c.file.bill.flags 1),(8,decide (c.file.bill.payee=-1)),(9,AV c.file.bill.flags 4),(10,AV c.file.bill.flags 2),(11,decide (fH r c.file.bill.city≠fH r c.file.bill.pay)),(12,Tk c.file c.sign),(13,AV s.flags 1),(14,decide (0<yt s c.due))]
def K8 (r:Realm)(c:Case)(s:Sign):List Cell:=
 (sO c s).map (fun p=>⟨true,p.2⟩)++(sP r c s).map (fun p=>fU p.2)++
    [jT c.file 0 c.sign,jT c.file 1 c.sign,jT c.file 2 c.sign,jT c.file 3 (nl c),jT c.file 4 (nl c)]
@[simp] theorem auC (x:Case):gZ 19 (eK x)=cd x.file:=_root_.id rfl
@[simp] theorem auA (x:Case):gZ 15 (eK x)=dN x.file.bill:=_root_.id rfl
@[simp] theorem auB (x:File):gZ 15 (cd x)=dN x.bill:=_root_.id rfl
def ru (c:Case):Bool:=aD c.sign c.file.signs.length&&decide (-1≤c.holder)&&decide (nl c<c.file.signs.length)&&(decide (c.due=-1)||aD c.due 100001)
def jd (r:Realm)(c:Case):List Cell:=if ru c=true∧aD (c.file.signs.getD c.sign.toNat default).day 100001=true then K8 r c (c.file.signs.getD c.sign.toNat default) else[]
theorem aoh (r:Realm)(c:Case)(h2:c.file.facts.length≤100000)(h3:c.file.alters.length≤100000):ak T 184 [bq r,eK c] (cells (jd r c)):=by
 refine .of_tree rfl (lA 63 (by kernel_rfl)) aqO ?_;cases hs:aD c.sign c.file.signs.length
 ·have hv:jd r c=[]:=by unfold jd ru;rw[hs];simp
  rw[hv];simp[sY];refine⟨_,nL _ _,?_⟩;simp[hs];rfl
 by_cases hh:c.holder< -1
 ·have hv:jd r c=[]:=by unfold jd ru;rw[hs];simp;intros;omega
  rw[hv];simp[sY,hh];exact⟨⟨_,nL _ _⟩,rfl⟩
 by_cases hm:(c.file.signs.length:Int)≤nl c
 ·have hv:jd r c=[]:=by unfold jd ru;rw[hs];simp;intros;omega
  rw[hv];unfold nl at hm;simp[sY,hm];exact⟨⟨_,nL _ _⟩,rfl⟩
 by_cases hd:c.due≠-1∧aD c.due 100001=false
 ·have hv:jd r c=[]:=by unfold jd ru;rw[hs];simp[hd]
  rw[hv];unfold nl at hm;obtain⟨bh,dG⟩:=hd;simp[sY,hh,hm,bh];refine⟨_,nL _ _,?_⟩;simp[hs,hh,hm,bh];refine⟨_,nL _ _,?_⟩;simp[hs,hh,hm,bh,dG];rfl
 have hcb:ru c=true:=by
  unfold ru;rw[hs];simp;refine⟨⟨by omega,by omega⟩,?_⟩;by_cases h:c.due=-1
  ·exact .inl h
  ·right;cases hb:aD c.due 100001
   ·exact absurd ⟨h,hb⟩ hd
   ·rfl
 have hlen:c.sign.toNat<c.file.signs.length:=by simp[aD] at hs;omega
 have dP:0≤c.sign∧c.sign<(c.file.signs.length:Int):=by simpa [aD] using hs
 obtain⟨s,BT⟩:∃s:Sign,s=c.file.signs[c.sign.toNat]:=⟨_,rfl⟩
 have oN:c.file.signs.getD c.sign.toNat default=s:=by rw[BT];simp[hlen]
 have hv:jd r c=if aD s.day 100001=true then K8 r c s else[]:=by
  unfold jd;rw[oN,hcb];simp
 rw[hv];unfold nl at hm;by_cases Bh:c.due=-1
 case' pos=>
  have Vn:(c.due=-1)=True:=eq_true Bh;simp[sY,hh,hm,Vn];refine⟨_,nL _ _,?_⟩;simp[hs,hh,hm,Vn,hlen,←BT,dP]
 case' neg=>
  have Bd:aD c.due 100001=true:=by
   cases hb:aD c.due 100001
   ·exact absurd ⟨Bh,hb⟩ hd
   ·rfl
  simp[sY,hh,hm,Bh];refine⟨_,nL _ _,?_⟩;simp[hs,hh,hm,Bh];refine⟨_,nL _ _,?_⟩;simp[hs,hh,hm,Bh,Bd,hlen,←BT,dP]
 all_goals
  refine⟨_,nL _ _,?_⟩;cases Gi:aD s.day 100001
  ·simp[Gi];rfl
  simp[Gi,ef];refine Xa (sO c s) D.int (fun n=>⟨true,n⟩) (fun _=>dT) ?_ ?_ ?_ ?_ (fun p hp g done=>?_) ?_
  ·intro p q hp hq h;simp[sO] at hp hq;rcases hp with rfl|rfl|rfl|rfl|rfl|rfl|rfl<;>rcases hq with rfl|rfl|rfl|rfl|rfl|rfl|rfl<;>first|rfl|(simp at h)
  ·intro p hp;simp[sO] at hp;rcases hp with rfl|rfl|rfl|rfl|rfl|rfl|rfl<;>simp
  ·have LG:(if c.due=-1 then(0:Int) else IntKind.i64.wrap (s.day-c.due))=yt s c.due:=by
        unfold yt;by_cases h:c.due=-1
        ·simp[h]
        ·have Bd:aD c.due 100001=true:=by
          cases hb:aD c.due 100001
          ·exact absurd ⟨h,hb⟩ hd
          ·rfl
         simp[aD] at Bd Gi;rw[if_neg h,if_neg h];exact bE (by omega)
   simp[sO,ef,hlen,←BT];rw[←LG];by_cases h:c.due=-1<;>simp[h]
  ·simp[fX];rfl
  ·have hr:0≤p.1∧p.1<20:=by
        simp[sO] at hp;rcases hp with rfl|rfl|rfl|rfl|rfl|rfl|rfl<;>simp
   have hk:p.1.toNat<20:=by omega
   simp[an4,PB,oY,Em g hk];exact hr
  have ah9:∀k (hk:k<c.file.alters.length),ak T 218 (m5 c.file.alters[k]::[.ref (eK c)]) (.bool (decide ((c.file.alters.getD k default).at_≤c.sign))):=fun k hk=>by
   refine .of_tree rfl (lA 64 (by kernel_rfl)) aqN ?_;simp[Rz,hk]
  simp;refine⟨_,abr c.file.alters _ _ _ ah9 (by omega),_,nK r _,_,nK r _,?_⟩;have LG:(if c.due=-1 then(0:Int) else IntKind.i64.wrap (s.day-c.due))=yt s c.due:=by
   unfold yt;by_cases h:c.due=-1
   ·simp[h]
   ·have Bd:aD c.due 100001=true:=by
     cases hb:aD c.due 100001
     ·exact absurd ⟨h,hb⟩ hd
     ·rfl
    simp[aD] at Bd Gi;rw[if_neg h,if_neg h];exact bE (by omega)
  have LF:cells (K8 r c s)=fX (fun i=>if i=15 then jT c.file 0 c.sign else if i=16 then jT c.file 1 c.sign else if i=17 then jT c.file 2 c.sign else if i=18 then jT c.file 3 (nl c) else if i=19 then jT c.file 4 (nl c) else xF (sP r c s) fU (xF (sO c s) (fun n=>⟨true,n⟩) (fun _=>dT)) i):=by
   rfl
  generalize xF (sO c s) (fun n=>(⟨true,n⟩:Cell)) (fun _=>dT)=g1 at*;refine Xa (sP r c s) D.bool fU g1 ?_ ?_ ?_ ?_ (fun p hp g done=>?_) ?_
  ·intro p q hp hq h;simp[sP] at hp hq;rcases hp with rfl|rfl|rfl|rfl|rfl|rfl|rfl|rfl<;>rcases hq with rfl|rfl|rfl|rfl|rfl|rfl|rfl|rfl<;>first|rfl|(simp at h)
  ·intro p hp;simp[sP] at hp;rcases hp with rfl|rfl|rfl|rfl|rfl|rfl|rfl|rfl<;>simp
  ·simp[sP,ef,hlen,←BT,AV];rw[←LG];by_cases h:c.due=-1<;>simp[h,Tk]
  ·simp
  ·have hr:0≤p.1∧p.1<20:=by
        simp[sP] at hp;rcases hp with rfl|rfl|rfl|rfl|rfl|rfl|rfl|rfl<;>simp
   have hk:p.1.toNat<20:=by omega
   simp[an5,PD,oY,Em g hk];refine⟨_,aav _,?_⟩;simp[Em g hk];exact hr
  simp;generalize xF (sP r c s) fU g1=g2 at*;have hho:(if c.holder<0 then D.int 0 else D.int c.holder)=D.int (nl c):=by
   unfold nl;split<;>rfl
  rw[hho];refine⟨_,Dn _ _ _ (by omega),_,Dn _ _ _ (by omega),_,Dn _ _ _ (by omega),_,Dn _ _ _ (by omega),_,Dn _ _ _ (by omega),?_⟩;rw[LF];simp only[adb,ao1,adf,ade];refine TQ fun i hi=>?_;by_cases FX:i=15
  ·subst FX;simp
  by_cases FY:i=16
  ·subst FY;simp
  by_cases FZ:i=17
  ·subst FZ;simp
  by_cases F0:i=18
  ·subst F0;simp
  by_cases UT:i=19
  ·subst UT;simp
  simp[FX,FY,FZ,F0,UT]
end Rm
namespace Rm
open Go Go.Proofs Cx
def HC (n:Nat)(x:Int):Bool:=decide (x<0)||decide ((n:Int)≤x)
def km (r:Realm)(a q:Int)(l:List Int):Bool:=
 !(decide (a<0)||decide ((r.orders.length:Int)≤a)||decide (q<0)||decide (22≤q)||decide (l.length≠5))&& !((List.range l.length).any fun k=>HC r.orders.length (l.getD k 0))
theorem afm (x n:Int):ak T 223 [.int x,.ref (.int n)] (.bool (decide (x<0)||decide (n≤x))):=by
 refine .of_tree rfl (lA 73 (by kernel_rfl)) apS ?_;by_cases h:x<0<;>simp[QJ,h]
theorem UA (r:Realm)(a q:Int)(l:List Int)(hl:l.length≤100000):ak T 186 [bq r,.int a,.int q,ints l] (.bool (km r a q l)):=by
 refine .of_tree rfl (lA 72 (by kernel_rfl)) apT ?_;by_cases h1:a<0
 ·simp[sX,km,h1]
 by_cases h2:(r.orders.length:Int)≤a
 ·simp[sX,km,h1,h2]
 by_cases h3:q<0
 ·simp[sX,km,h1,h2,h3]
 by_cases h4:22≤q
 ·simp[sX,km,h1,h2,h3,h4]
 by_cases h5:(l.length:Int)=5
 ·have F3:l.length=5:=by omega
  simp[sX,h1,h2,h3,h4,F3];refine⟨_,abt l 223 [.ref (.int r.orders.length)] (fun k=>HC r.orders.length (l.getD k 0)) (fun k hk=>by simpa [HC,hk] using afm l[k] r.orders.length) (by omega),?_⟩;simp only[km,F3];simp[h1,h2,h3,h4]
 ·have F3:¬l.length=5:=by omega
  simp[sX,km,h1,h2,h3,h4,F3];intro h;omega
theorem KZ {r:Realm}{a q:Int}{l:List Int}(h:km r a q l=true):(0≤a∧a<r.orders.length)∧l.length=5∧(∀x,x∈l→0≤x∧x<r.orders.length)∧∀b:Int,0≤b→b<r.orders.length→km r b q l=true:=by
 unfold km at h ⊢;rw[aq] at h;obtain⟨h1,h2⟩:=h;simp at h1;refine⟨by omega,h1.2,fun x hx=>?_,fun b ij fc=>?_⟩
 ·obtain⟨k,hk,rfl⟩:=eZ hx;simp[HC] at h2;have:=h2 k hk;simp[hk] at this;omega
 ·rw[h2];simp;omega
def zB (r:Realm):Prop:=∀o,o∈r.orders→o.choices.length≤100000∧∀ch,ch∈o.choices→0≤ch.by_∧ch.by_<5
def uR (q:Int)(ch:Choice):Bool:=decide (ch.ask=q)&&decide (ch.by_≠0)
def mi (r:Realm)(a:Int):Order:=r.orders.getD a.toNat default
def fg (r:Realm)(a q:Int)(l:List Int):Int×Bool:=
 (match(mi r a).choices.find? (uR q) with|some ch=>l.getD ch.by_.toNat 0|none=>a,match(mi r a).choices.find? (uR q) with|some ch=>ch.whole|none=>false)
theorem SM (r:Realm)(nf:zB r)(a q:Int)(l:List Int)(hl:l.length≤100000)(hf:km r a q l=true):
 ak T 187 [bq r,.int a,.int q,ints l] (.tup [.int (fg r a q l).1,.bool (fg r a q l).2])∧0≤(fg r a q l).1∧(fg r a q l).1<r.orders.length:=by
 obtain⟨ha,VE,hx,_⟩:=KZ hf;have xQ:a.toNat<r.orders.length:=by omega
 obtain⟨aV,kp⟩:=nf _ (cr xQ);obtain⟨o,ho⟩:∃o,o=r.orders[a.toNat]:=⟨_,rfl⟩
 rw[←ho] at aV kp;have L5:mi r a=o:=by rw[ho];simp[mi,xQ]
 unfold fg;rw[L5];refine⟨?_,?_⟩
 ·refine .of_tree rfl (lA 76 (by kernel_rfl)) apR ?_;simp[QI];refine⟨_,UA r a q l hl,?_⟩;simp[hf,xQ,←ho,ha];refine aH.scan o.choices.length (fun k=>uR q (o.choices.getD k default)=false) (fun k=>[.int 0,.bool false,.int k]) (fun _=>[]) ?_ (fun k hk hj ar=>?_) (fun k hk hj ar=>?_) (fun hj=>?_)
  ·simp
  ·have hw:=bA hk (by omega);have hn:¬(o.choices[k].ask=q∧¬o.choices[k].by_=0):=by simpa [uR,hk] using ar
   simp[Pd,CL,xQ,←ho,hk,hw,hn]
  ·have jX:=AR hk (by simpa [hk] using ar) (fun j cC=>by have:=hj j cC;simpa [show j<o.choices.length by omega] using this);rw[jX];have hc:o.choices[k].ask=q∧¬o.choices[k].by_=0:=by simpa [uR,hk] using ar
   have hb:=kp _ (cr hk);have Ge:o.choices[k].by_.toNat<l.length:=by omega
   simp[Pd,CL,xQ,←ho,hk,hc,ints,Ge];omega
  ·have jX:=FJ (l:=o.choices) (p:=uR q) (fun j cC=>by have:=hj j cC;simpa [cC] using this);rw[jX];simp[Pd,CL,xQ,←ho]
 ·cases jX:o.choices.find? (uR q) with
  |none=>exact ha
  |some ch=>
   have hb:=kp _ (zG jX);have Ge:ch.by_.toNat<l.length:=by omega
   simp[Ge];exact hx _ (cr Ge)
theorem Oy:∀(N:Nat) (l:List Int),l.Nodup→(∀x,x∈l→0≤x∧x<(N:Int))→l.length≤N
 |0,l,hn,h=>by
  cases l with
  |nil=>simp
  |cons a l=>have:=h a (by simp);omega
 |N+1,l,hn,h=>by
  by_cases hm:(N:Int)∈l
  ·have h1:=Oy N (l.erase (N:Int)) (hn.erase _) (fun x hx=>by
    have cR:=(hn.mem_erase_iff).mp hx;have:=h x cR.2;have az:=cR.1;omega)
   rw[List.length_erase_of_mem hm] at h1;omega
  ·have h1:=Oy N l hn (fun x hx=>by
    have:=h x hx;have az:x≠(N:Int):=fun e=>hm (e▸hx);omega)
   omega
def cT (l:List Int):Int:=l.getD (l.length-1) 0
def jD (r:Realm)(q:Int)(l:List Int):Nat→List Int→List Int×Int
 |0,p=>(p,0)
 |n+1,p=>
  if(fg r (cT p) q l).1=cT p then(p,0)
  else if(fg r (cT p) q l).2=false∨(hasB p (fg r (cT p) q l).1=true∧(mi r (fg r (cT p) q l).1).accepts=true) then(p++[(fg r (cT p) q l).1],0)
  else if hasB p (fg r (cT p) q l).1=true then(p++[(fg r (cT p) q l).1],12)
  else jD r q l n (p++[(fg r (cT p) q l).1])
theorem MW (r:Realm)(q:Int)(l:List Int)(n:Nat)(p:List Int):jD r q l (n+1) p=
 if(fg r (cT p) q l).1=cT p then(p,0)
 else if(fg r (cT p) q l).2=false∨(hasB p (fg r (cT p) q l).1=true∧(mi r (fg r (cT p) q l).1).accepts=true) then(p++[(fg r (cT p) q l).1],0)
 else if hasB p (fg r (cT p) q l).1=true then(p++[(fg r (cT p) q l).1],12)
 else jD r q l n (p++[(fg r (cT p) q l).1]):=rfl
def gO (r:Realm)(a q:Int)(l:List Int):List Int×Int:=if km r a q l=true∧l.getD 0 0=a then jD r q l r.orders.length [a] else([],1)
theorem abH (r:Realm)(nf:zB r)(hn:r.orders.length≤100000)(a q:Int)(l:List Int)(hl:l.length≤100000):ak T 129 [bq r,.int a,.int q,ints l] (.tup [ints (gO r a q l).1,.int (gO r a q l).2]):=by
 refine .of_tree rfl (lA 71 (by kernel_rfl)) apQ ?_;simp[QH];refine⟨_,UA r a q l hl,?_⟩;cases hf:km r a q l
 ·simp[gO,hf];rfl
 obtain⟨ha,VE,hx,ui⟩:=KZ hf;have h0:0<l.length:=by omega
 by_cases uu:l[0]=a
 ·have hE:gO r a q l=jD r q l r.orders.length [a]:=by unfold gO;rw[if_pos ⟨hf,by simp[h0,uu]⟩]
  rw[hE];simp[h0,uu,ints];refine aH.forLoop (α:=Nat×List Int) (fun s vr vo=>vr=[.list [],.int 0,.none]∧vo=[ints s.2]∧s.2.Nodup∧(∀x,x∈s.2→0≤x∧x<(r.orders.length:Int))∧s.2≠[]∧s.1+s.2.length=r.orders.length+1∧jD r q l s.1 s.2=jD r q l r.orders.length [a]) (fun s=>s.1) (r.orders.length,[a]) ?_ ?_
  ·simp[ints];exact ha
  ·rintro⟨n,p⟩ vr vo ⟨rfl,rfl,bm,cu,az,hlen,Bw⟩;simp only at*;have eD:p.length≤r.orders.length:=Oy _ p bm cu;have GK:0<p.length:=Jv.mpr az;obtain⟨m,rfl⟩:∃m,n=m+1:=⟨n-1,by omega⟩
   have af:p.length-1<p.length:=by omega
   have jy:cT p=p[p.length-1]:=by simp[cT,af]
   have uv:=cu _ (cr af);rw[←jy] at uv;obtain⟨Lj,fF,fG⟩:=SM r nf (cT p) q l hl (ui _ uv.1 uv.2);have LQ:((p.length:Int)-1).toNat=p.length-1:=by omega
   have MG:IntKind.i64.wrap ((p.length:Int)-1)=(p.length:Int)-1:=bE (by omega);rw[←Bw,MW];obtain⟨L,hL⟩:∃L,L=fg r (cT p) q l:=⟨_,rfl⟩
   rw[←hL] at Lj fF fG ⊢;obtain⟨to,whole⟩:=L;simp only at Lj fF fG;have uH:to.toNat<r.orders.length:=by omega
   have L5:mi r to=r.orders[to.toNat]:=by simp[mi,uH]
   simp only[L5];simp[anR,Pc,MG,LQ,af,←jy,ints];refine⟨by omega,_,Lj,?_⟩;by_cases h1:to=cT p
   ·simp[h1]
   simp[h1];refine⟨_,tj p to (by omega),by omega,?_⟩;cases whole
   ·simp
   cases h2:hasB p to
   ·have cP:to∉p:=fun hm=>by
     have:hasB p to=true:=by simp[hasB,hm]
     rw[h2] at this;cases this
    simp[h2];refine⟨m,by omega,p++[to],by simp,?_,?_,by simp,by simp;omega,rfl⟩
    ·exact DZ.mpr ⟨bm,by simp,fun x hx y hy=>by simp at hy;subst hy;exact fun e=>cP (e▸hx)⟩
    ·intro x hx;rcases cS.mp hx with h|h
     ·exact cu x h
     ·simp at h;subst h;exact⟨fF,fG⟩
   ·cases h3:r.orders[to.toNat].accepts<;>simp[h2,h3,uH]<;>omega
 ·have hE:gO r a q l=([],1):=by unfold gO;rw[if_neg (by simp[h0,uu])]
  rw[hE];simp[h0,uu];rfl
end Rm
namespace Rm
open Go Go.Proofs Cx
def dV (f:File)(i:Int):Sign:=f.signs.getD i.toNat default
def kG (r:Realm)(forum:Int)(c:Case):List Int:=[forum,fH r (dV c.file c.sign).city,fH r c.file.bill.pay,fH r c.file.bill.city,fH r (r.firms.getD (dV c.file c.sign).who.toNat default).city]
def oe (r:Realm)(forum:Int)(c:Case):Prop:=(dV c.file c.sign).who<0∨(r.firms.length:Int)≤(dV c.file c.sign).who∨forum<0∨(r.orders.length:Int)≤forum
instance (r:Realm) (forum:Int) (c:Case):Decidable (oe r forum c):=by unfold oe;infer_instance
def iZ (r:Realm)(forum:Int)(c:Case):List Int:=if oe r forum c then[] else if hasB (kG r forum c) (-1)=true then[] else kG r forum c
@[simp] theorem auW (r:Realm)(x:Int):wz (bq r) x=fH r x:=by
  unfold wz fH aD;by_cases h:0≤x∧x<(r.cities.length:Int)
  ·have hx:x.toNat<r.cities.length:=by omega
   rw[if_pos (by simpa using h),if_pos (by simpa using h)];simp[hx]
  ·rw[if_neg (by simpa using h),if_neg (by simpa using h)]
theorem Zl (r:Realm)(forum:Int)(c:Case)(h1:c.sign.toNat<c.file.signs.length):Oz [bq r,.int forum,eK c]=ints (iZ r forum c):=by
 have hs:dV c.file c.sign=c.file.signs[c.sign.toNat]:=by simp[dV,h1]
 unfold Oz iZ;simp[h1];by_cases hb:oe r forum c
 ·rw[if_pos (by simpa [oe,hs] using hb),if_pos hb];rfl
 ·rw[if_neg (by simpa [oe,hs] using hb),if_neg hb];have GR:(dV c.file c.sign).who.toNat<r.firms.length:=by unfold oe at hb;omega
  have Wi:c.file.signs[c.sign.toNat].who.toNat<r.firms.length:=by rw[←hs];exact GR
  have iU:kG r forum c=[forum,fH r c.file.signs[c.sign.toNat].city,fH r c.file.bill.pay,fH r c.file.bill.city,fH r r.firms[c.file.signs[c.sign.toNat].who.toNat].city]:=by
   simp[kG,hs,Wi]
  have cO:∀l:List Int,hasB l (-1)=true↔-1∈l:=fun l=>by simp[hasB]
  rw[iU];simp[Wi];split
  ·rename_i h;rw[if_pos ((cO _).mpr (by simpa using h))];rfl
  ·rename_i h;rw[if_neg (fun h'=>h (by simpa using(cO _).mp h'))]
theorem anp (r:Realm)(forum:Int)(c:Case)(h1:0≤c.sign∧c.sign<c.file.signs.length):ak T 128 [bq r,.int forum,eK c] (ints (iZ r forum c)):=by
 have cN:c.sign.toNat<c.file.signs.length:=by omega
 rw[←Zl r forum c cN];have hs:dV c.file c.sign=c.file.signs[c.sign.toNat]:=by simp[dV,cN]
 refine ak.of_nsl rfl apx apy ?_;rw[Zl r forum c cN];by_cases hb:oe r forum c
 ·refine .inr ⟨by simp[iZ,hb];rfl,?_⟩;have ec:=hb;simp[oe,hs] at ec;simp[I7,h1,cN]
  intros;omega
 have oC:iZ r forum c=if hasB (kG r forum c) (-1)=true then[] else kG r forum c:=by unfold iZ;rw[if_neg hb]
 have ec:=hb;simp[oe,hs] at ec;have hw:c.file.signs[c.sign.toNat].who.toNat<r.firms.length:=by omega
 have hC:=tj (kG r forum c) (-1) (by simp[kG]);cases hh:hasB (kG r forum c) (-1)<;>rw[hh] at hC<;>simp[kG,ints,hs,hw] at hC
 ·refine .inl ⟨(kG r forum c).map .int,by simp[kG],by rw[oC,hh];rfl,?_⟩;simp[Qq,h1,cN,hw];rw[if_neg (by omega)];refine⟨_,nK r _,_,nK r _,_,nK r _,by omega,_,nK r _,_,by simpa using hC,?_⟩;simp[kG,hs,hw]
 ·refine .inr ⟨by rw[oC,hh];rfl,?_⟩;simp[I7,h1,cN,hw]
  intros
  refine⟨_,nK r _,_,nK r _,_,nK r _,by omega,_,nK r _,_,by simpa using hC,?_⟩;simp
end Rm
namespace Rm
open Go Go.Proofs Cx
structure Right (r:Realm):Prop where
 by_:zB r
 len:r.orders.length≤100000
 ok:∀o,o∈r.orders→o.OK∧o.rules.length≤100000
structure FewS (f:File):Prop where
 signs:f.signs.length≤1000
 alters:f.alters.length≤1000
 acts:f.acts.length≤1000
 facts:f.facts.length≤1000
theorem abg {α:Type}(p:α→Bool)(l:List α):(l.takeWhile p).length≤l.length:=by
 obtain⟨m,h1,h2,_⟩:=Ji p l;rw[h2,gp];omega
theorem FewS.at_ {f:File}(h:FewS f)(day:Int):FewS (iP f day):=
 ⟨fW (abg _ _) h.1,fW (nW _ _) h.2,fW (abg _ _) h.3,fW (nW _ _) h.4⟩
def gA (c:Case):Case:={c with file:=iP c.file c.day}
@[simp] theorem auN (x:File)(a0 a1 a2 a3 a4 a5 a6 a7 a8 a9 mS mT a12 mU mV pO pP pQ pR:D)(s h d u y:Int):gZ 24 (D.agg (cw [a0,a1,a2,a3,a4,a5,a6,a7,a8,a9,mS,mT,a12,mU,mV,pO,pP,pQ,pR,.int s,.int h,.int d,.int u,.int y] 0 [.int x.bill.drawer,.int x.bill.drawee,.int x.bill.payee,.int x.bill.sum,.int x.bill.currency,.int x.bill.tenor.kind,.int x.bill.tenor.n,.int x.bill.tenor.unit,.int x.bill.day,.int x.bill.city,.int x.bill.pay,.int x.bill.need,.int x.bill.rate,.int x.bill.flags,.int x.bill.parts,signs x.signs,alters x.alters,acts x.acts,facts x.facts]))=eK ⟨x,s,h,d,u,y⟩:=_root_.id rfl
theorem acn (r:Realm)(c:Case)(hf:FewS c.file):ak T 126 [bq r,eK c] (.tup [eK (gA c),cells (jd r (gA c))]):=by
 refine .of_tree rfl (lA 62 (by kernel_rfl)) apw ?_;simp[Qp];have h1:=hf.1;have h2:=hf.2;have h3:=hf.3;have h4:=hf.4;refine⟨_,PU c.file c.day (by omega) (by omega) (by omega) (by omega),?_⟩;have Gl:=hf.at_ c.day;have h5:=Gl.4;have h6:=Gl.2;simp;exact⟨aoh r (gA c) (by show(iP c.file c.day).facts.length≤_;omega) (by show(iP c.file c.day).alters.length≤_;omega),(congrArg (gZ 24) (am5 (gA c) _ _ _ _ _ _ _ _ _ _ _ _ _ _ _ _ _ _ _ _ _ _ _ _)).trans (ab9 (gA c))⟩
theorem arH {r:Realm}{c:Case}(h:jd r c≠[]):0≤c.sign∧c.sign<c.file.signs.length:=by
 unfold jd at h;split at h
 ·rename_i hh;have h1:=hh.1;unfold ru at h1;simp[aD] at h1;omega
 ·exact absurd rfl h
theorem WJ (r:Realm)(nf:zB r)(q:Int)(l:List Int)(hl:l.length≤100000)(ui:∀b:Int,0≤b→b<r.orders.length→km r b q l=true):∀(n:Nat) (p:List Int),p≠[]→(∀x,x∈p→0≤x∧x<(r.orders.length:Int))→
 (jD r q l n p).1≠[]∧∀x,x∈(jD r q l n p).1→0≤x∧x<(r.orders.length:Int)
 |0,p,az,hp=>⟨az,hp⟩
 |n+1,p,az,hp=>by
  have af:p.length-1<p.length:=by have:=Jv.mpr az;omega
  have jy:cT p=p[p.length-1]:=by simp[cT,af]
  have uv:=hp _ (cr af);rw[←jy] at uv;obtain⟨_,ht⟩:=SM r nf (cT p) q l hl (ui _ uv.1 uv.2)
  have aR:∀x,x∈p++[(fg r (cT p) q l).1]→0≤x∧x<(r.orders.length:Int):=fun x hx=>by
   rcases cS.mp hx with h|h
   ·exact hp x h
   ·simp at h;subst h;exact ht
  rw[MW];split
  ·exact⟨az,hp⟩
  split
  ·exact⟨by simp,aR⟩
  split
  ·exact⟨by simp,aR⟩
  ·exact WJ r nf q l hl ui n _ (by simp) aR
theorem WI {r:Realm}(hr:Right r){a q:Int}{l:List Int}(hl:l.length≤100000)(h:(gO r a q l).2=0):(gO r a q l).1≠[]∧0≤cT (gO r a q l).1∧cT (gO r a q l).1<r.orders.length:=by
 unfold gO at h ⊢;split at h
 ·rename_i hh;rw[if_pos hh];obtain⟨ha,VE,hx,ui⟩:=KZ hh.1;obtain⟨h1,h2⟩:=WJ r hr.by_ q l hl ui r.orders.length [a] (by simp) (fun x hx=>by simp at hx;subst hx;exact ha);refine⟨h1,?_⟩;have af:(jD r q l r.orders.length [a]).1.length-1<(jD r q l r.orders.length [a]).1.length:=by have:=Jv.mpr h1;omega
  have jy:cT (jD r q l r.orders.length [a]).1=(jD r q l r.orders.length [a]).1[(jD r q l r.orders.length [a]).1.length-1]:=by simp[cT,af]
  rw[jy];exact h2 _ (cr af)
 ·cases h
theorem WK (r:Realm)(q:Int)(l:List Int):∀(n:Nat) (p:List Int),(jD r q l n p).1.length≤p.length+n
 |0,p=>by simp[jD]
 |n+1,p=>by
  rw[MW];split
  ·simp
  split
  ·simp
  split
  ·simp
  ·have:=WK r q l n (p++[(fg r (cT p) q l).1]);simp at this;omega
theorem ajV (r:Realm)(a q:Int)(l:List Int):(gO r a q l).1.length≤1+r.orders.length:=by
 unfold gO;split
 ·exact WK r q l _ [a]
 ·simp
@[simp] theorem ayu (a b c d e x:D):cw [a,b,c,d,e] 2 [x]=[a,b,x,d,e]:=_root_.id rfl
@[simp] theorem ayv (a b c d e x:D):cw [a,b,c,d,e] 3 [x]=[a,b,c,x,e]:=_root_.id rfl
@[simp] theorem ayw (a b c d e x:D):cw [a,b,c,d,e] 4 [x]=[a,b,c,d,x]:=_root_.id rfl
def Nt:Said:=⟨dT,-1,[],1⟩
def iO (r:Realm)(forum q:Int)(c:Case):Said×List Cell:=
 if jd r (gA c)=[] then(Nt,[]) else if(nP q).2=false then(Nt,[]) else if iZ r forum (gA c)=[] then(Nt,[]) else
    (⟨dT,if(gO r forum q (iZ r forum (gA c))).2=0 then cT (gO r forum q (iZ r forum (gA c))).1 else-1,(gO r forum q (iZ r forum (gA c))).1,(gO r forum q (iZ r forum (gA c))).2⟩,jd r (gA c))
theorem Zm (r:Realm)(forum:Int)(c:Case):(iZ r forum c).length≤5:=by
 unfold iZ;split
 ·simp
 split<;>simp[kG]
theorem acm (r:Realm)(hr:Right r)(forum q:Int)(c:Case)(hf:FewS c.file):ak T 84 [bq r,.int forum,.int q,eK c] (.tup [m9 (iO r forum q c).1,cells (iO r forum q c).2]):=by
 refine .of_tree rfl (lA 61 (by kernel_rfl)) apv ?_;simp[Qo];refine⟨_,acn r c hf,?_⟩;by_cases hv:jd r (gA c)=[]
 ·simp[hv,iO];exact⟨rfl,rfl⟩
 simp[hv,iO];refine⟨_,Oq q,?_⟩;cases hq:(nP q).2
 ·simp[hq];exact⟨rfl,rfl⟩
 simp[hq];refine⟨_,anp r forum (gA c) (arH hv),?_⟩;by_cases hp:iZ r forum (gA c)=[]
 ·simp[hp];exact⟨rfl,rfl⟩
 have eD:=Zm r forum (gA c);have az:ints (iZ r forum (gA c))≠.list []:=fun e=>hp (by simpa [ints] using e);simp[hp];generalize iZ r forum (gA c)=l at*;refine⟨_,abH r hr.by_ hr.len forum q l (by omega),?_⟩;have hlen:=ajV r forum q l;have Bw:=WI hr (a:=forum) (q:=q) (l:=l) (by omega);have Ma:=hr.len;generalize gO r forum q l=L at*;obtain⟨path,err⟩:=L;simp only at*;by_cases he:err=0
 ·obtain⟨h1,h2⟩:=Bw he;have GK:=Jv.mpr h1;have MG:IntKind.i64.wrap ((path.length:Int)-1)=(path.length:Int)-1:=bE (by omega);have LQ:((path.length:Int)-1).toNat=path.length-1:=by omega
  have af:path.length-1<path.length:=by omega
  have jy:cT path=path[path.length-1]:=by simp[cT,af]
  simp[he,MG,LQ,af,←jy];exact⟨by omega,rfl⟩
 ·simp[he];rfl
def zQ (r:Realm)(forum q:Int)(c:Case):Said:=
 if(iO r forum q c).1.order=-1 then(iO r forum q c).1
 else⟨(wx (mi r (iO r forum q c).1.order) q (iO r forum q c).2).1,(iO r forum q c).1.order,(iO r forum q c).1.path,(wx (mi r (iO r forum q c).1.order) q (iO r forum q c).2).2⟩
theorem acj {r:Realm}(hr:Right r)(forum q:Int)(c:Case):(iO r forum q c).1.order=-1∨(0≤(iO r forum q c).1.order∧(iO r forum q c).1.order<r.orders.length):=by
 unfold iO;split
 ·exact .inl rfl
 split
 ·exact .inl rfl
 split
 ·exact .inl rfl
 ·have eD:=Zm r forum (gA c);have Bw:=WI hr (a:=forum) (q:=q) (l:=iZ r forum (gA c)) (by omega);show(if _ then _ else _)=_∨_;split
  ·rename_i h;exact .inr (Bw h).2
  ·exact .inl rfl
theorem Tn (r:Realm)(hr:Right r)(forum q:Int)(c:Case)(hf:FewS c.file):ak T 33 [bq r,.int forum,.int q,eK c] (m9 (zQ r forum q c)):=by
 refine .of_tree rfl (lA 60 (by kernel_rfl)) apq ?_;simp[Qj];refine⟨_,acm r hr forum q c hf,?_⟩;have ho:=acj hr forum q c;unfold zQ;generalize iO r forum q c=S at*;obtain⟨s,cs⟩:=S;simp only at*;by_cases h:s.order=-1
 ·obtain⟨⟨kn,n⟩,o,pth,e⟩:=s;simp only at h;subst h;simp;rfl
 ·have h1:0≤s.order∧s.order<r.orders.length:=by omega
  have h2:s.order.toNat<r.orders.length:=by omega
  have h3:mi r s.order=r.orders[s.order.toNat]:=by simp[mi,h2]
  obtain⟨ar,hlen⟩:=hr.ok _ (cr h2);simp[h,h1,h2,h3];refine⟨_,am0 _ q cs ar (by omega),?_⟩;simp;rfl
def pY (r:Realm)(forum q:Int)(f:File)(day:Int):Said:=zQ r forum q ⟨{f with facts:=[]},0,-1,-1,-1,day⟩
theorem To (r:Realm)(hr:Right r)(forum q:Int)(f:File)(day:Int)(hf:FewS f):ak T 81 [bq r,.int forum,.int q,cd f,.int day] (m9 (pY r forum q f day)):=by
 refine .of_tree rfl (lA 59 (by kernel_rfl)) apr ?_;simp[Qk];refine⟨m9 (pY r forum q f day),Tn r hr forum q ⟨{f with facts:=[]},0,-1,-1,-1,day⟩ ⟨hf.1,hf.2,hf.3,by simp⟩,?_⟩;simp
 try rfl
def Jh (s:Said):Int:=if s.err≠0 then 0 else if s.cell.known=false then 2 else if s.cell.n≠0 then 1 else 0
theorem Tp (s:Said):ak T 35 [m9 s] (.int (Jh s)):=by
 refine .of_tree rfl (lA 97 (by kernel_rfl)) apu ?_;unfold Jh;by_cases h1:s.err=0<;>cases h2:s.cell.known<;>by_cases h3:s.cell.n=0<;>simp[Qn,h1,h2,h3]
def sA (s:Said):Int:=if s.err≠0∨s.cell.known=false then-1 else s.cell.n
theorem ack (s:Said):ak T 32 [m9 s] (.int (sA s)):=by
 refine .of_tree rfl (lA 99 (by kernel_rfl)) apt ?_;unfold sA;by_cases h1:s.err=0<;>cases h2:s.cell.known<;>simp[Qm,h1,h2]
end Rm
namespace Rm
open Go Go.Proofs Cx
def jN (day:Int)(l:List Act)(es:List (D×D)):List (D×D):=l.foldl (fun es a=>if a.kind=7∧a.day≤day then ef (.int a.at_) (.bool true) es else es) es
theorem ao3 (day:Int)(l:List Act){k:Nat}(hk:k<l.length):jN day (l.take (k+1)) []=if l[k].kind=7∧l[k].day≤day then ef (.int l[k].at_) (.bool true) (jN day (l.take k) []) else jN day (l.take k) []:=by
 unfold jN;rw[fL hk,wg];rfl
theorem Zp (k v:D):∀es:List (D×D),(ef k v es).length≤es.length+1
 |[]=>by simp[ef]
 |e::es=>by
  unfold ef;split
  ·simp
  ·have:=Zp k v es;simp;omega
theorem aa1 (day:Int):∀(l:List Act) (es:List (D×D)),(jN day l es).length≤es.length+l.length
 |[],es=>by simp[jN]
 |a::l,es=>by
  have h:=aa1 day l (if a.kind=7∧a.day≤day then ef (.int a.at_) (.bool true) es else es);have hp:=Zp (.int a.at_) (.bool true) es;show(jN day l (if a.kind=7∧a.day≤day then ef (.int a.at_) (.bool true) es else es)).length≤_;split at h
  ·rename_i hc;rw[if_pos hc];simp;omega
  ·rename_i hc;rw[if_neg hc];simp;omega
theorem apm (f:File)(day:Int)(hl:f.acts.length≤100000):ak T 176 [cd f,.int day] (.map (jN day f.acts [])):=by
 refine .of_tree rfl (lA 121 (by kernel_rfl)) arp ?_;simp[R6];refine aH.forRounds f.acts.length (fun k=>[.int k]) (fun k=>[.map (jN day (f.acts.take k) [])]) ?_ (fun k hk=>?_) ?_
 ·simp[jN]
 ·have hw:=bA hk (by omega);have hs:=ao3 day f.acts hk;have hlen:=aa1 day (f.acts.take k) [];rw[hs];simp at hlen;generalize jN day (f.acts.take k) []=es at*;by_cases hc:f.acts[k].kind=7∧f.acts[k].day≤day
  ·simp[PQ,Dk,hk,hw,hc];omega
  ·simp[PQ,Dk,hk,hw,hc]
 ·simp[PQ,Dk]
theorem Zq {k v:D}:∀{es:List (D×D)} {e:D×D},e∈ef k v es→e.2=v∨e∈es
 |[],e,h=>by simp[ef] at h;exact .inl (by rw[h])
 |x::es,e,h=>by
  unfold ef at h;split at h
  ·rcases cG.mp h with rfl|h
   ·exact .inl rfl
   ·exact .inr (by simp[h])
  ·rcases cG.mp h with rfl|h
   ·exact .inr (by simp)
   ·rcases Zq h with h|h
    ·exact .inl h
    ·exact .inr (by simp[h])
theorem aa2 (day:Int):∀(l:List Act) (es:List (D×D)),(∀e,e∈es→e.2=.bool true)→∀e,e∈jN day l es→e.2=.bool true
 |[],es,h,e,he=>h e he
 |a::l,es,h,e,he=>by
  refine aa2 day l (if a.kind=7∧a.day≤day then ef (.int a.at_) (.bool true) es else es) (fun x hx=>?_) e he;split at hx
  ·rcases Zq hx with h'|h'
   ·exact h'
   ·exact h x h'
  ·exact h x hx
theorem WR {k d:D}:∀{es:List (D×D)},gk k es=some d→∃e,e∈es∧e.2=d
 |x::es,h=>by
  unfold gk at h;split at h
  ·exact⟨x,by simp,by simpa using h⟩
  ·obtain⟨e,h1,h2⟩:=WR h;exact⟨e,by simp[h1],h2⟩
theorem ao2 (day:Int)(l:List Act)(k:D):(gk k (jN day l [])).getD (.bool false)=.bool ((gk k (jN day l [])).getD (.bool false)).b:=by
 cases h:gk k (jN day l []) with
 |none=>rfl
 |some d=>
  obtain⟨e,h1,h2⟩:=WR h;have:=aa2 day l [] (fun e h=>by cases h) e h1;rw[h2] at this;rw[this];rfl
def IY (f:File)(sign day:Int):Bool:=aD sign f.signs.length&&((gk (.int sign) (jN day f.acts [])).getD (.bool false)).b
theorem apl (f:File)(sign day:Int)(hl:f.acts.length≤100000):ak T 113 [cd f,.int sign,.int day] (.bool (IY f sign day)):=by
 refine .of_tree rfl (lA 120 (by kernel_rfl)) aro ?_;by_cases h1:0≤sign<;>by_cases h2:sign<f.signs.length<;>simp[R5,h1,h2,IY,aD];refine⟨_,apm f day hl,?_⟩;exact ao2 day f.acts (.int sign)
def pA (f:File)(sign:Int)(n:Nat):Int:=(f.alters.take n).foldl (fun s a=>if a.at_≤sign then a.sum else s) f.bill.sum
theorem ane (f:File)(sign:Int)(hl:f.alters.length≤100000):ak T 177 [cd f,.int sign] (.int (pA f sign f.alters.length)):=by
 refine .of_tree rfl (lA 125 (by kernel_rfl)) aqc ?_;simp[QW];refine aH.forRounds f.alters.length (fun k=>[.int (pA f sign k),.int k]) (fun k=>[]) ?_ (fun k hk=>?_) ?_
 ·simp[pA]
 ·have hw:=bA hk (by omega);have hs:pA f sign (k+1)=if f.alters[k].at_≤sign then f.alters[k].sum else pA f sign k:=by
   unfold pA;rw[fL hk,wg];rfl
  rw[hs];generalize pA f sign k=s at*;by_cases hc:f.alters[k].at_≤sign<;>simp[aag,Ik,hk,hw,hc]
 ·simp[aag,Ik]
end Rm
namespace Rm
open Go Go.Proofs Cx
theorem Ws (r:Realm)(c:Int):ak T 120 [bq r,.int c] (.bool (aD c r.cities.length)):=by
 refine .of_tree rfl (lA 103 (by kernel_rfl)) aq4 ?_;by_cases h1:0≤c<;>by_cases h2:c<r.cities.length<;>simp[RP,h1,h2,aD]
def ia (n:Int):Bool:=decide (0≤n)&&decide (n≤100000)
theorem MO (n:Int):ak T 121 [.int n] (.bool (ia n)):=by
 refine .of_tree rfl (lA 104 (by kernel_rfl)) aq5 ?_;by_cases h1:0≤n<;>by_cases h2:n≤100000<;>simp[RQ,h1,h2,ia]
theorem DL (n:Int):ak T 215 [.int n] (.bool (ia n)):=by
 refine .of_tree rfl (lA 109 (by kernel_rfl)) apM ?_;by_cases h1:0≤n<;>by_cases h2:n≤100000<;>simp[QD,h1,h2,ia]
def aaU (t:Tenor):Bool:=decide (t.kind=0)||decide (t.kind=1)
theorem S9 (t:Tenor):ak T 122 [qh t] (.bool (aaU t)):=by
 refine .of_tree rfl (lA 105 (by kernel_rfl)) aq3 ?_;by_cases h1:t.kind=0<;>simp[RO,h1,aaU]
theorem XA (y m d:Int):∃n:Int,ak T 268 [.int y,.int m,.int d] (.int n):=by
 by_cases h:m<3
 ·refine⟨?w,?h⟩
  case h=>
   refine ak.of_tree (d:=.int ?w) rfl Ts abb ?_;simp[Jb,h];exact rfl
 ·refine⟨?v,?g⟩
  case g=>
   refine ak.of_tree (d:=.int ?v) rfl Ts abb ?_;simp[Jb,h];exact rfl
def Cl (y m d:Int):Int:=(XA y m d).choose
theorem Hi (y m d:Int):ak T 268 [.int y,.int m,.int d] (.int (Cl y m d)):=(XA y m d).choose_spec
def yu (y m:Int):Int:=if m=12 then 31 else IntKind.i64.wrap (Cl y (IntKind.i64.wrap (m+1)) 1-Cl y m 1)
theorem G1 (y m:Int):ak T 243 [.int y,.int m] (.int (yu y m)):=by
 refine .of_tree rfl (lA 111 (by kernel_rfl)) apK ?_;unfold yu;by_cases h:m=12
 ·simp[Ja,h]
 ·simp[Ja,h];refine⟨_,Hi _ _ _,_,Hi _ _ _,?_⟩;simp
theorem abv (y m d:Int):∃n e:Int,ak T 242 [.int y,.int m,.int d] (.tup [.int n,.int e])∧(e=0→0≤n∧n≤100000):=by
 by_cases h0:(((2000≤y∧y≤2300)∧1≤m)∧m≤12)∧1≤d
 ·by_cases h2:d≤yu y m
  ·cases h1:ia (Cl y m d)
   ·refine⟨0,3,.of_tree rfl Ee I9 ?_,by simp⟩;simp[zn];rw[if_pos h0];refine⟨_,G1 y m,?_⟩;simp[h0,h2];refine⟨_,Hi _ _ _,_,DL _,?_⟩;simp[h1]
   ·refine⟨Cl y m d,0,.of_tree rfl Ee I9 ?_,fun _=>by simpa [ia] using h1⟩;simp[zn];rw[if_pos h0];exact⟨_,G1 y m,⟨h0,h2⟩,_,Hi _ _ _,_,DL _,h1,rfl⟩
  ·refine⟨0,3,.of_tree rfl Ee I9 ?_,by simp⟩;simp[zn];rw[if_pos h0];refine⟨_,G1 y m,?_⟩;simp[h0,h2]
 ·refine⟨0,3,.of_tree rfl Ee I9 ?_,by simp⟩;simp[zn];rw[if_neg h0];intro a1 a2 a3 a4 a5;exact absurd ⟨⟨⟨⟨a1,a2⟩,a3⟩,a4⟩,a5⟩ h0
theorem Tc (r:Realm)(fr to:Int)(hl:r.usances.length≤100000):∃n e:Int,ak T 106 [bq r,.int fr,.int to] (.tup [.int n,.int e])∧(e=0→∃u,u∈r.usances∧n=u.days)∧(e=0↔∃u,u∈r.usances∧u.fr=fr∧u.to=to):=by
 let p:Usance→Bool:=fun u=>decide (u.fr=fr)&&decide (u.to=to)
 refine⟨match r.usances.find? p with|some u=>u.days|none=>0,match r.usances.find? p with|some u=>0|none=>4,?_,?_⟩
 ·refine .of_tree rfl (lA 40 (by kernel_rfl)) aqz ?_;simp[Rk];refine aH.scan r.usances.length (fun k=>p (r.usances.getD k default)=false) (fun k=>[.int 0,.int 0,.int k]) (fun _=>[]) ?_ (fun k hk hj ar=>?_) (fun k hk hj ar=>?_) (fun hj=>?_)
  ·simp
  ·have hw:=bA hk (by omega);have hn:¬(r.usances[k].fr=fr∧r.usances[k].to=to):=by simpa [p,hk] using ar
   simp[Pn,CW,hk,hw,hn]
  ·have jX:=AR hk (by simpa [hk] using ar) (fun j cC=>by have:=hj j cC;simpa [show j<r.usances.length by omega] using this);have hc:r.usances[k].fr=fr∧r.usances[k].to=to:=by simpa [p,hk] using ar
   rw[jX];simp[Pn,CW,hk,hc]
  ·have jX:=FJ (l:=r.usances) (p:=p) (fun j cC=>by have:=hj j cC;simpa [cC] using this);rw[jX];simp[Pn,CW]
 ·cases h:r.usances.find? p with
  |none=>
   refine⟨fun h=>(by cases h),fun h=>(by cases h),fun⟨u,hu,h1,h2⟩=>?_⟩;have:=we.1 h u hu;simp[p,h1,h2] at this
  |some u=>
   have h2:u.fr=fr∧u.to=to:=by simpa [p] using Jt h
   exact⟨fun _=>⟨u,zG h,rfl⟩,fun _=>⟨u,zG h,h2⟩,fun _=>rfl⟩
theorem abS (r:Realm)(fr to:Int)(hl:r.usances.length≤100000):∃n e:Int,ak T 106 [bq r,.int fr,.int to] (.tup [.int n,.int e])∧(e=0→∃u,u∈r.usances∧n=u.days):=by
 obtain⟨n,e,h1,h2,_⟩:=Tc r fr to hl;exact⟨n,e,h1,h2⟩
end Rm
namespace Rm
open Go Go.Proofs Cx
theorem TV (R Y:Int)(hR:0≤R∧R<146097)(h1:365*Y≤R-R/1460+R/36524-R/146096)(h2:R-R/1460+R/36524-R/146096<365*Y+365):0≤R-(365*Y+Y/4-Y/100)∧R-(365*Y+Y/4-Y/100)≤500:=by
 have k0:R/36524≤R/1460:=by omega
 have k1:Y/4≤R/1460:=by omega
 have hY:0≤Y:=by omega
 have hc:R/36524=0∨R/36524=1∨R/36524=2∨R/36524=3∨R/36524=4:=by omega
 have k2:25*(R/36524)≤R/1460:=by omega
 refine⟨?_,?_⟩
 ·rcases Int.lt_or_le Y (100*(R/36524)) with hy|hy
  ·have k3:Y/4≤25*(R/36524)-1:=by omega
   have k4:R/36524-1≤Y/100:=by omega
   omega
  ·have k3:R/36524≤Y/100:=by omega
   omega
 ·omega
theorem TW (n:Int)(h:0≤n∧n≤100400):ak T 241 [.int n] (.tup [.int (eu n).1,.int (eu n).2.1,.int (eu n).2.2]):=by
 refine .of_tree rfl (lA 110 (by kernel_rfl)) apH ?_;have w:∀x:Int,-1000000000≤x→x≤1000000000→IntKind.i64.wrap x=x:=fun x a b=>bE (by omega);have t:∀x y:Int,0≤x→x.tdiv y=x/y:=fun x y hx=>Int.tdiv_eq_ediv_of_nonneg hx;have u:∀x y:Int,0≤x→x.tmod y=x%y:=fun x y hx=>abE hx;simp[Qz];unfold eu;simp only[];rw[w (n+730425) (by omega) (by omega),u (n+730425) 146097 (by omega),t (n+730425) 146097 (by omega)];have hR:0≤(n+730425)%146097∧(n+730425)%146097<146097:=by omega
 have hE:0≤(n+730425)/146097∧(n+730425)/146097<100:=by omega
 generalize (n+730425)%146097=R at*;generalize (n+730425)/146097=e at*;rw[t R 1460 (by omega),t R 36524 (by omega),t R 146096 (by omega),w (R/1460) (by omega) (by omega),w (R-R/1460) (by omega) (by omega),w (R/36524) (by omega) (by omega),w (R-R/1460+R/36524) (by omega) (by omega),w (R/146096) (by omega) (by omega),w (R-R/1460+R/36524-R/146096) (by omega) (by omega),t (R-R/1460+R/36524-R/146096) 365 (by omega)];have hY:0≤(R-R/1460+R/36524-R/146096)/365∧(R-R/1460+R/36524-R/146096)/365<400:=by omega
 have hD:0≤R-(365*((R-R/1460+R/36524-R/146096)/365)+(R-R/1460+R/36524-R/146096)/365/4-(R-R/1460+R/36524-R/146096)/365/100)∧R-(365*((R-R/1460+R/36524-R/146096)/365)+(R-R/1460+R/36524-R/146096)/365/4-(R-R/1460+R/36524-R/146096)/365/100)≤500:=by
  exact TV R _ hR (by omega) (by omega)
 generalize (R-R/1460+R/36524-R/146096)/365=Y at*;rw[w Y (by omega) (by omega),w (365*Y) (by omega) (by omega),t Y 4 (by omega),t Y 100 (by omega),w (Y/4) (by omega) (by omega),w (Y/100) (by omega) (by omega),w (365*Y+Y/4) (by omega) (by omega),w (365*Y+Y/4-Y/100) (by omega) (by omega),w (R-(365*Y+Y/4-Y/100)) (by omega) (by omega)];generalize R-(365*Y+Y/4-Y/100)=D at*;rw[w (5*D) (by omega) (by omega),w (5*D+2) (by omega) (by omega),t (5*D+2) 153 (by omega)];have hM:0≤(5*D+2)/153∧(5*D+2)/153≤20:=by omega
 generalize (5*D+2)/153=M at*;rw[w M (by omega) (by omega),w (M+3) (by omega) (by omega),w (M+3-12) (by omega) (by omega),w e (by omega) (by omega),w (400*e) (by omega) (by omega),w (Y+400*e) (by omega) (by omega),w (Y+400*e+1) (by omega) (by omega)];rw[w (153*M) (by omega) (by omega),w (153*M+2) (by omega) (by omega),t (153*M+2) 5 (by omega),w ((153*M+2)/5) (by omega) (by omega),w (D-(153*M+2)/5) (by omega) (by omega),w (D-(153*M+2)/5+1) (by omega) (by omega)];refine⟨?_,?_,rfl⟩
 ·generalize (if 12<M+3 then M+3-12 else M+3)=m;split<;>rfl
 ·split<;>rfl
theorem abp (d n:Int):∃x e:Int,ak T 214 [.int d,.int n] (.tup [.int x,.int e])∧(e=0→0≤x∧x≤100000):=by
 by_cases h0:ia d=true∧-5000≤n∧n≤5000
 ·have hd:0≤d∧d≤100400:=by have:=h0.1;simp[ia] at this;omega
  obtain⟨A,hA⟩:∃A,A=IntKind.i64.wrap (IntKind.i64.wrap (IntKind.i64.wrap (IntKind.i64.wrap (12*(eu d).1)+(eu d).2.1)-1)+n):=⟨_,rfl⟩
  obtain⟨Y,hY⟩:∃Y,Y=IntKind.i64.wrap (A.tdiv 12):=⟨_,rfl⟩
  obtain⟨M,hM⟩:∃M,M=IntKind.i64.wrap (A.tmod 12+1):=⟨_,rfl⟩
  obtain⟨x,e,hD,hb⟩:=abv Y M (if yu Y M<(eu d).2.2 then yu Y M else(eu d).2.2);refine⟨x,e,.of_tree rfl Tr aba ?_,hb⟩;have n1:¬n< -5000:=by omega
  have n2:¬5000<n:=by omega
  simp[I8,n1,n2];refine⟨_,DL d,?_⟩;simp[h0.1];refine⟨_,TW d hd,?_⟩;simp[←hA,←hY,←hM];refine⟨_,G1 Y M,?_⟩;by_cases hl:yu Y M<(eu d).2.2
  ·simp only[if_pos hl] at hD;simp[hl];refine⟨_,hD,?_⟩;simp
  ·simp only[if_neg hl] at hD;simp[hl];refine⟨_,hD,?_⟩;simp
 ·refine⟨0,3,.of_tree rfl Tr aba ?_,by simp⟩;simp[I8];refine⟨_,DL d,?_⟩;simp;intro a b c;exact absurd ⟨a,b,c⟩ h0
end Rm
namespace Rm
open Go Go.Proofs Cx
theorem Lp (l:List Int)(x:Int):hasB l x=l.contains x:=by
 rw[vW];simp[hasB]
def DB (c:City):Prop:=c.rest.length≤100000∧c.feasts.length≤100000∧c.shut.length≤100000
theorem adt (n:Int)(h:0≤n∧n≤100400):(0≤(eu n).2.1∧(eu n).2.1≤30)∧-1000≤(eu n).2.2∧(eu n).2.2≤1000:=by
 unfold eu;simp only[];have hR:0≤(n+730425)%146097∧(n+730425)%146097<146097:=by omega
 generalize (n+730425)%146097=R at*;have hD:=TV R ((R-R/1460+R/36524-R/146096)/365) hR (by omega) (by omega);generalize (R-R/1460+R/36524-R/146096)/365=Y at*;generalize R-(365*Y+Y/4-Y/100)=D at*;have hM:0≤(5*D+2)/153∧(5*D+2)/153≤20:=by omega
 generalize (5*D+2)/153=M at*;refine⟨?_,by omega,by omega⟩;split<;>omega
theorem amX (c:City)(hc:DB c)(n:Int)(h:0≤n∧n≤100400):ak T 245 [fZ c,.int n] (.bool (vd c.rest c.feasts c.shut n)):=by
 refine .of_tree rfl (lA 118 (by kernel_rfl)) apL ?_;simp[QC];refine⟨_,TW n h,?_⟩;have w5:IntKind.i64.wrap (n+5)=n+5:=bE (by omega);have m7:(n+5).tmod 7=(n+5)%7:=abE (by omega);obtain⟨h1,h2,h3⟩:=hc;simp[w5,m7];refine⟨_,tj c.rest ((n+5)%7) (by omega),?_⟩;unfold vd;rw[←Lp];cases hr:hasB c.rest ((n+5)%7)
 ·obtain⟨ij,fc⟩:=adt n h;have wm:IntKind.i64.wrap (100*(eu n).2.1)=100*(eu n).2.1:=bE (by omega);have wd:IntKind.i64.wrap (100*(eu n).2.1+(eu n).2.2)=100*(eu n).2.1+(eu n).2.2:=bE (by omega);simp[hr,wm,wd];refine⟨_,tj c.feasts _ (by omega),?_⟩;have e1:=Lp c.feasts (100*(eu n).2.1+(eu n).2.2);have e2:=Lp c.shut n;simp at e1 e2;cases hf:hasB c.feasts (100*(eu n).2.1+(eu n).2.2)
  ·simp[hf,←e1,←e2];exact⟨_,tj c.shut n (by omega),rfl⟩
  ·simp[hf,←e1]
 ·simp[hr]
end Rm
namespace Rm
open Go Go.Proofs Cx
def dZ (c:City)(a:Int)(k:Nat):List Int:=((List.range k).map fun(i:Nat)=>a+i).filter (vd c.rest c.feasts c.shut)
theorem T5 (c:City)(a:Int)(k:Nat):dZ c a (k+1)=dZ c a k++if vd c.rest c.feasts c.shut (a+k) then[a+k] else[]:=by
 unfold dZ;rw[D1,ki,DU]
 congr 1
 cases h:vd c.rest c.feasts c.shut (a+k)<;>simp[h]
theorem adP (c:City)(a:Int){k n:Nat}(h:k≤n):∃r,dZ c a n=dZ c a k++r:=by
 induction n with
 |zero=>obtain rfl:k=0:=by omega
        exact⟨[],by simp⟩
 |succ n ih=>
  by_cases e:k=n+1
  ·subst e;exact⟨[],by simp⟩
  ·obtain⟨r,hr⟩:=ih (by omega);exact⟨r++_,by rw[T5,hr,nT]⟩
def ou (d:Int):D:=.tup [.int d]
theorem adQ (c:City)(a b:Int):T7 [.ref (.int a),.ref (.int b),.ref (fZ c)]=(dZ c a (b-a+1).toNat).map ou:=by
 have hi:∀l:List Int,uP (ints l)=l:=fun l=>by
  show(l.map D.int).map D.i=l;rw[wj];exact List.map_id l
 show(T6 (uP (ints c.rest)) (uP (ints c.feasts)) (uP (ints c.shut)) a b).map _=_;rw[hi,hi,hi];rfl
theorem adN (c:City)(hc:DB c)(a b:Int)(ha:0≤a)(hb:b≤100400)(xO:a≤100400):ak T 244 [.ref (.int a),.ref (.int b),.ref (fZ c)] (.list ((dZ c a (b-a+1).toNat).map ou)):=by
 have rX:=adQ c a b;rw[←rX];obtain⟨N,hN⟩:∃N,N=(b-a+1).toNat:=⟨_,rfl⟩
 refine ak.of_it (pc:=(ae pZ)) (J:=1000) (k:=1) rfl (fun x hx=>?_) (fun m hm=>?_)
 ·rw[rX] at hx;obtain⟨i,_,rfl⟩:=cX.1 hx;exact⟨_,rfl,rfl⟩
 ·rw[rX] at hm ⊢;rw[←hN] at hm ⊢;refine Jg ?_;rw[apI];simp[QB];refine aH.forLoop (α:=Nat) (fun k vr vo=>k≤N∧vr=[.int (a+k)]∧vo=[.list ((dZ c a k).map ou)]∧(dZ c a k).length≤m) (fun k=>N-k) 0 ?_ ?_
  ·simp[aeT,dZ]
  ·rintro k vr vo ⟨hk,rfl,rfl,lg⟩;by_cases af:k<N
   ·have hle:a+(k:Int)≤b:=by omega
    have dh:IntKind.i64.wrap (a+(k:Int)+1)=a+((k+1:Nat):Int):=by rw[bE (by omega)];omega
    have dA:=(amX c hc (a+k) (by omega))
    have yi:=T5 c a k;obtain⟨r,hr⟩:=adP c a (k:=k+1) (n:=N) af;simp[Z4,H7,hle];refine⟨_,dA.yld (by decide),?_⟩;cases hi:vd c.rest c.feasts c.shut (a+k)
    ·simp[hi] at yi ⊢;exact⟨k+1,by omega,by omega,dh,by rw[yi],by rw[yi];exact lg⟩
    ·simp[hi] at yi ⊢;have hlen:(dZ c a (k+1)).length=(dZ c a k).length+1:=by rw[yi];simp
     have qA:(dZ c a k).map ou++[D.tup [D.int (a+k)]]=(dZ c a (k+1)).map ou:=by rw[yi,ki];rfl
     have BW:(dZ c a (k+1)).map ou=((dZ c a N).map ou).take ((dZ c a k).length+1):=by
      rw[hr,ki,List.take_append_of_le_length (by simp[hlen]),wq (by simp[hlen])]
     have aV:(dZ c a k).length<((dZ c a N).map ou).length:=by rw[hr];simp[hlen];omega
     rw[qA];refine⟨_,ak.answer BW aV lg,?_⟩;by_cases uA:(dZ c a k).length<m
     ·simp[uA];exact⟨k+1,by omega,by omega,dh,rfl,by omega⟩
     ·obtain rfl:(dZ c a k).length=m:=by omega
      simp;rw[BW]
   ·obtain rfl:k=N:=by omega
    have hle:¬a+(k:Int)≤b:=by omega
    simp[Z4,H7,hle];rw[wq (by simp;omega)]
end Rm
namespace Rm
open Go Go.Proofs Cx
theorem adR (c:City)(a b:Int):ak T 216 [fZ c,.int a,.int b] (.clo 244 [.ref (.int a),.ref (.int b),.ref (fZ c)]):=by
 refine .of_tree rfl (lA 117 (by kernel_rfl)) apJ ?_;simp[QA]
def kZ (d:Int):Int:=if 100000<d+400 then 100000 else d+400
def iz (c:City)(d:Int):Int×Int:=
 if ia d=false then(0,3) else match dZ c d (kZ d-d+1).toNat with|[]=>(0,3)|x::_=>(x,0)
theorem adO {c:City}{a:Int}{k:Nat}{x:Int}(h:x∈dZ c a k):a≤x∧x<a+k:=by
 unfold dZ at h;obtain⟨h1,_⟩:=fa.mp h;obtain⟨i,hi,rfl⟩:=cX.mp h1;have:=fp.mp hi;omega
theorem amt {c:City}{d:Int}(h:(iz c d).2=0):ia d=true∧d≤(iz c d).1∧(iz c d).1≤100000:=by
 unfold iz at h ⊢;cases hd:ia d
 ·simp[hd] at h
 ·simp only[hd] at h ⊢;cases hk:dZ c d (kZ d-d+1).toNat with
  |nil=>rw[hk] at h;simp at h
  |cons x l=>
   have hm:x∈dZ c d (kZ d-d+1).toNat:=by rw[hk];simp
   have:=adO hm;have he:kZ d≤100000:=by unfold kZ;split<;>omega
   simp[ia] at hd;simp;unfold kZ at*;omega
theorem abO (c:City)(hc:DB c)(d:Int):ak T 183 [fZ c,.int d] (.tup [.int (iz c d).1,.int (iz c d).2]):=by
 refine .of_tree rfl (lA 116 (by kernel_rfl)) apG ?_;simp[Qy];refine⟨_,DL d,?_⟩;cases hd:ia d
 ·simp[iz,hd]
 have fB:0≤d∧d≤100000:=by simpa [ia] using hd
 have hw:IntKind.i64.wrap (d+400)=d+400:=bE (by omega);have he:kZ d≤100000:=by unfold kZ;split<;>omega
 simp[hd,hw];have hE:(if 100000<d+400 then D.int 100000 else D.int (d+400))=D.int (kZ d):=by unfold kZ;split<;>rfl
 rw[hE];refine⟨_,adR c d (kZ d),_,_,rfl,_,adN c hc d (kZ d) fB.1 (by omega) (by omega),?_⟩;cases hk:dZ c d (kZ d-d+1).toNat with
 |nil=>
  have hn:iz c d=(0,3):=by unfold iz;simp[hd,hk]
  rw[hn];refine aH.eachR [] (by simp) (fun _ vo=>vo=[.agg [.int 0],.agg [.int 0]]) ?_ (fun k x vo hx hi=>by simp at hx) (fun vo hi=>?_)
  ·simp
  ·subst hi;simp
 |cons x l=>
  have hn:iz c d=(x,0):=by unfold iz;simp[hd,hk]
  rw[hn];refine aH.eachR ((x::l).map ou) (by simp) (fun k vo=>k=0∧vo=[.agg [.int 0],.agg [.int 0]]) ?_ (fun k y vo hx hi=>?_) (fun vo hi=>?_)
  ·simp
  ·obtain⟨rfl,rfl⟩:=hi;simp at hx;subst hx;simp[anQ,Pa,ou];rfl
  ·exact absurd hi.1 (by simp)
end Rm
namespace Rm
open Go Go.Proofs Cx
def IV (o:Int)(d:Int)(h:Halt):Int:=if(h.order=o∧h.fr≤d)∧d≤h.to then h.to+1 else d
def kM (r:Realm)(o d:Int)(k:Nat):Int:=(r.halts.take k).foldl (IV o) d
theorem aaX (r:Realm)(o d:Int){k:Nat}(hk:k<r.halts.length):kM r o d (k+1)=IV o (kM r o d k) r.halts[k]:=by
 unfold kM;rw[fL hk,wg];rfl
def wc (r:Realm):Prop:=r.halts.length≤100000∧∀h,h∈r.halts→0≤h.fr∧h.to≤100000
theorem Qc {r:Realm}(hh:wc r)(o d:Int)(hd:d≤100001):∀k,k≤r.halts.length→d≤kM r o d k∧kM r o d k≤100001
 |0,_=>⟨by simp[kM],by simpa [kM] using hd⟩
 |k+1,hk=>by
  obtain⟨h1,h2⟩:=Qc hh o d hd k (by omega);rw[aaX r o d (by omega)];have:=hh.2 _ (cr (show k<r.halts.length by omega));unfold IV;split<;>omega
def vN (r:Realm)(o:Int):Nat→Int→Int
 |0,d=>d
 |n+1,d=>if kM r o d r.halts.length=d then d else vN r o n (kM r o d r.halts.length)
def jM (r:Realm)(o d:Int):Int:=vN r o (100002-d).toNat d
theorem aaY {r:Realm}(hh:wc r)(o:Int):∀(n:Nat) (d:Int),d≤100001→d≤vN r o n d∧vN r o n d≤100001
 |0,d,hd=>⟨Int.le_refl _,hd⟩
 |n+1,d,hd=>by
  obtain⟨h1,h2⟩:=Qc hh o d hd r.halts.length (aU _);unfold vN;split
  ·omega
  ·have:=aaY hh o n _ h2;omega
theorem aoX (r:Realm)(hh:wc r)(o d:Int)(h0:0≤d)(hd:d≤100001):ak T 182 [bq r,.int o,.int d] (.int (jM r o d)):=by
 refine .of_tree rfl (lA 115 (by kernel_rfl)) aq7 ?_;simp[RS];refine aH.forLoop (α:=Int×Bool×Nat) (fun s vr vo=>vr=[.int s.1,.bool s.2.1]∧vo=[]∧d≤s.1∧s.1≤100001∧(s.2.1=true→(100002-s.1).toNat≤s.2.2)∧(s.2.1=true→vN r o s.2.2 s.1=jM r o d)∧(s.2.1=false→s.1=jM r o d)) (fun s=>2*(100001-s.1).toNat+(if s.2.1 then 1 else 0)) (d,true,(100002-d).toNat) ?_ ?_
 ·simp;exact⟨by omega,rfl⟩
 ·rintro⟨e,ch,n⟩ vr vo ⟨rfl,rfl,h1,h2,h3,h4,h5⟩;simp only at*;cases ch
  ·simp[aas,IB];exact h5 rfl
  ·have h3:=h3 rfl;have h4:=h4 rfl;obtain⟨n,rfl⟩:∃m,n=m+1:=⟨n-1,by omega⟩
   have cu:=Qc hh o e h2;simp[aas,IB];refine aH.forRounds r.halts.length (fun k=>[.int (kM r o e k),.bool (decide (e<kM r o e k)),.int k]) (fun _=>[]) ?_ (fun k hk=>?_) ?_
   ·simp[kM]
   ·have hw:=bA hk (by have:=hh.1;omega);have cn:=cu k (by omega);have uH:=hh.2 _ (cr hk);rw[aaX r o e hk];unfold IV;generalize kM r o e k=x at*;by_cases hc:(r.halts[k].order=o∧r.halts[k].fr≤x)∧x≤r.halts[k].to
    ·have eN:IntKind.i64.wrap (r.halts[k].to+1)=r.halts[k].to+1:=bE (by omega);simp[IA,y8,hk,hw,hc,eN];omega
    ·simp[IA,y8,hk,hw,hc]
   ·have hE:=cu r.halts.length (aU _);unfold vN at h4;generalize kM r o e r.halts.length=x at*;by_cases hx:x=e
    ·rw[if_pos hx] at h4;subst hx;simp[IA,y8];exact⟨x,by omega,rfl,h1,h2,h4⟩
    ·rw[if_neg hx] at h4;have af:e<x:=by omega
     simp[IA,y8,af];exact⟨x,by omega,rfl,by omega,by omega,n,by omega,h4⟩
def vL (r:Realm)(c:City)(o:Int):Nat→Int→Int×Int
 |0,d=>(d,0)
 |n+1,d=>
  if(iz c (jM r o d)).2≠0 then(0,3)
  else if(iz c (jM r o d)).1=jM r o d then(jM r o d,0)
  else vL r c o n (iz c (jM r o d)).1
theorem aoP (r:Realm)(c:City)(o:Int)(n:Nat)(d:Int):vL r c o (n+1) d=
 if(iz c (jM r o d)).2≠0 then(0,3)
 else if(iz c (jM r o d)).1=jM r o d then(jM r o d,0)
 else vL r c o n (iz c (jM r o d)).1:=rfl
def IS (r:Realm)(city d:Int):Int×Int:=vL r (r.cities.getD city.toNat default) (fH r city) (100002-d).toNat d
theorem aoQ (r:Realm)(hh:wc r)(city d:Int)(hc:0≤city∧city<r.cities.length)(hs:∀c,c∈r.cities→DB c)(h0:0≤d)(hd:d≤100001):ak T 124 [bq r,.int city,.int d] (.tup [.int (IS r city d).1,.int (IS r city d).2]):=by
 refine .of_tree rfl (lA 114 (by kernel_rfl)) aq6 ?_;simp[RR];refine⟨_,nK r city,?_⟩;have aV:city.toNat<r.cities.length:=by omega
 have hcg:r.cities.getD city.toNat default=r.cities[city.toNat]:=by simp[aV]
 have hsc:=hs _ (cr aV);have hF:IS r city d=vL r r.cities[city.toNat] (fH r city) (100002-d).toNat d:=by unfold IS;rw[hcg]
 rw[hF];refine aH.forLoop (α:=Int×Nat) (fun s vr vo=>(∃a b,vr=[.int s.1,a,b])∧vo=[]∧0≤s.1∧s.1≤100001∧(100002-s.1).toNat≤s.2∧vL r r.cities[city.toNat] (fH r city) s.2 s.1=vL r r.cities[city.toNat] (fH r city) (100002-d).toNat d) (fun s=>s.2) (d,(100002-d).toNat) ?_ ?_
 ·simp;omega
 ·rintro⟨e,n⟩ vr vo ⟨⟨a,b,rfl⟩,rfl,h1,h2,h3,h4⟩;simp only at*;obtain⟨n,rfl⟩:∃m,n=m+1:=⟨n-1,by omega⟩
  rw[←h4];have BV:=aaY hh (fH r city) (100002-e).toNat e h2;have hsr:=aoX r hh (fH r city) e h1 h2;rw[aoP];change e≤jM r (fH r city) e∧jM r (fH r city) e≤100001 at BV;generalize jM r (fH r city) e=x at*;have L3:=abO r.cities[city.toNat] hsc x;have oH:=amt (c:=r.cities[city.toNat]) (d:=x);generalize iz r.cities[city.toNat] x=N at*;obtain⟨y,er⟩:=N;simp only at L3 oH;simp[an6,PL];refine⟨_,hsr,?_⟩;simp[aV,hc];refine⟨_,L3,?_⟩;by_cases he:er=0
  ·obtain⟨g1,g2,g3⟩:=oH he;by_cases hy:y=x
   ·simp[he,hy]
   ·simp[he,hy];exact⟨y,n,by omega,rfl,by omega,by omega,by omega,rfl⟩
  ·simp[he]
end Rm
namespace Rm
open Go Go.Proofs Cx
structure RightD (r:Realm):Prop where
 small:Small r
 halts:wc r
theorem RightD.cities {r:Realm}(h:RightD r)(c:City)(hc:c∈r.cities):DB c:=by
 obtain⟨h1,h2,h3,_⟩:=h.small.city c hc;exact⟨by omega,by omega,by omega⟩
theorem Th (d:Int)(t:Tenor):∃n e:Int,ak T 180 [.int d,qh t] (.tup [.int n,.int e]):=by
 by_cases h0:t.n<0
 ·refine⟨0,3,.of_tree rfl Ef Je ?_⟩;simp[zo,h0]
 by_cases h1:20000<t.n
 ·refine⟨0,3,.of_tree rfl Ef Je ?_⟩;simp[zo,h0,h1]
 by_cases h2:t.unit=1
 ·obtain⟨n,e,h,_⟩:=abp d t.n;refine⟨n,e,.of_tree rfl Ef Je ?_⟩;simp[zo,h0,h1,h2];refine⟨_,h,?_⟩;simp
 ·refine⟨IntKind.i64.wrap (d+t.n),0,.of_tree rfl Ef Je ?_⟩;simp[zo,h0,h1,h2]
theorem acL (r:Realm)(hr:RightD r)(b:Bill)(seen:Int):∃n e:Int,ak T 123 [bq r,dN b,.int seen] (.tup [.int n,.int e]):=by
 have htn:D.agg [D.int b.tenor.kind,D.int b.tenor.n,D.int b.tenor.unit]=qh b.tenor:=rfl;by_cases h0:b.tenor.kind=0
 ·refine⟨seen,0,.of_tree rfl zS DH ?_⟩;simp[vP,h0]
 by_cases h1:b.tenor.kind=1
 ·obtain⟨n,e,h⟩:=Th seen b.tenor;refine⟨n,e,.of_tree rfl zS DH ?_⟩;have cN:(b.tenor.kind=1)=True:=eq_true h1;simp[vP,h0,cN];refine⟨_,h,?_⟩;simp
 by_cases h2:b.tenor.kind=2
 ·obtain⟨n,e,h⟩:=Th b.day b.tenor;refine⟨n,e,.of_tree rfl zS DH ?_⟩;have jU:(b.tenor.kind=2)=True:=eq_true h2;simp[vP,h0,h1,jU];refine⟨_,h,?_⟩;simp
 by_cases h4:b.tenor.kind=4
 ·obtain⟨n,e,h,_⟩:=abS r b.city b.pay (by have:=hr.small.us;omega);refine⟨IntKind.i64.wrap (b.day+n),e,.of_tree rfl zS DH ?_⟩;have na:(b.tenor.kind=4)=True:=eq_true h4;simp[vP,h0,h1,h2,na];refine⟨_,h,?_⟩;simp
 ·refine⟨b.tenor.n,0,.of_tree rfl zS DH ?_⟩;simp[vP,h0,h1,h2,h4]
theorem ak.ex_of_tree {tab:Nat→Option PC}{ext:Nat→Option (aJ→List D→Option D)}{f:Nat}{pc:PC}{t:PT}{ds:List D}{P:D→Prop}(hx:ext f=none)(ht:tab f=some pc)(he:tree pc=t)
 (h:aE (cH tab ext) t (jt ds) (fun x=>∃d,x=.ret d∧P d)):∃d,ak (cH tab ext) f ds d∧P d:=by
 subst he;obtain⟨x,⟨d,rfl,hd⟩,n0,hn⟩:=abf (HJ ⟨fun _ _ _ h=>(by obtain⟨_,h,_⟩:=h;cases h),fun _ _ _ _ _ _ h=>(by obtain⟨_,h,_⟩:=h;cases h),fun _ h=>h⟩ h);exact⟨d,.of_pc hx ht ⟨.ret d,rfl,n0,hn⟩,hd⟩
def D4 (d:D):Prop:=∃n e:Int,d=.tup [.int n,.int e]
@[simp] theorem at1 (n e:Int):D4 (.tup [.int n,.int e])=True:=eq_true ⟨n,e,rfl⟩
theorem vZ (r:Realm)(hr:RightD r)(b:Bill)(seen gr:Int):∃d,ak T 82 [bq r,dN b,.int seen,.int gr] d∧D4 d:=by
 have htn:D.agg [D.int b.tenor.kind,D.int b.tenor.n,D.int b.tenor.unit]=qh b.tenor:=rfl;have ni:=PS r hr.small;refine ak.ex_of_tree rfl acx aq2 ?_;simp[RN];refine⟨_,ni,?_⟩;by_cases h0:hZ r=0
 case neg=>simp[h0]
 simp[h0];refine⟨_,Ws r b.city,?_⟩;cases h1:aD b.city r.cities.length
 ·simp[h1]
 simp[h1];refine⟨_,Ws r b.pay,?_⟩;cases h2:aD b.pay r.cities.length
 ·simp[h2]
 simp[h2];refine⟨_,MO b.day,?_⟩;cases h3:ia b.day
 ·simp[h3]
 simp[h3];intro _ _ _ _;have hp:0≤b.pay∧b.pay<r.cities.length:=by simpa [aD] using h2
 have fin:0≤gr→gr≤20000→∃d,ak T 123 [bq r,dN b,D.int seen] d∧
  if(d.tget 1).i=0 then ∃d1,ak T 121 [d.tget 0] d1∧(d1.b=true→IntKind.i64.wrap ((d.tget 0).i+gr)≤100000→
        ∃d2,ak T 124 [bq r,D.int b.pay,D.int (IntKind.i64.wrap ((d.tget 0).i+gr))] d2∧D4 (D.tup [d2.tget 0,d2.tget 1]))
  else D4 (D.tup [D.int 0,d.tget 1]):=by
  intro xV l5;obtain⟨n,e,h⟩:=acL r hr b seen;refine⟨_,h,?_⟩;by_cases he:e=0
  ·simp[he];refine⟨_,MO n,?_⟩;cases hd:ia n
   ·simp[hd]
   have fB:0≤n∧n≤100000:=by simpa [ia] using hd
   have hw:IntKind.i64.wrap (n+gr)=n+gr:=bE (by omega);simp[hd,hw];intro hle;refine⟨_,aoQ r hr.halts b.pay (n+gr) hp hr.cities (by omega) (by omega),?_⟩;simp
  ·simp[he]
 by_cases hs:seen=-1
 ·simp[hs] at fin ⊢;intro xV l5;refine⟨_,S9 b.tenor,?_⟩;simp;intro _;exact fin xV l5
 ·simp[hs] at fin ⊢;refine⟨_,MO seen,?_⟩;cases hk:ia seen
  ·simp[hk]
  simp[hk];intro xV l5;exact⟨⟨_,S9 b.tenor⟩,fin xV l5⟩
def tR (r:Realm)(b:Bill)(seen gr:Int):Int×Int:=
 open Classical in if h:RightD r then((vZ r h b seen gr).choose_spec.2.choose,(vZ r h b seen gr).choose_spec.2.choose_spec.choose) else(0,0)
theorem abw (r:Realm)(hr:RightD r)(b:Bill)(seen gr:Int):ak T 82 [bq r,dN b,.int seen,.int gr] (.tup [.int (tR r b seen gr).1,.int (tR r b seen gr).2]):=by
 have h:=(vZ r hr b seen gr).choose_spec.2.choose_spec.choose_spec;have h1:=(vZ r hr b seen gr).choose_spec.1;rw[h] at h1;have e:tR r b seen gr=((vZ r hr b seen gr).choose_spec.2.choose,(vZ r hr b seen gr).choose_spec.2.choose_spec.choose):=by unfold tR;rw[dif_pos hr]
 rw[e];exact h1
def No (r:Realm)(forum:Int)(f:File)(day:Int):Int:=
 if(iP f day).signs=[] then-1
 else if(tR r f.bill (vH (iP f day)) (max (sA (pY r forum 6 (iP f day) day)) 0)).2≠0 then-1
 else(tR r f.bill (vH (iP f day)) (max (sA (pY r forum 6 (iP f day) day)) 0)).1
@[simp] theorem axX (x:File)(a0 a1 a2 a3 a4 a5 a6 a7 a8 a9 mS mT a12 mU mV pO pP pQ pR:D):(cw [a0,a1,a2,a3,a4,a5,a6,a7,a8,a9,mS,mT,a12,mU,mV,pO,pP,pQ,pR] 0 [.int x.bill.drawer,.int x.bill.drawee,.int x.bill.payee,.int x.bill.sum,.int x.bill.currency,.int x.bill.tenor.kind,.int x.bill.tenor.n,.int x.bill.tenor.unit,.int x.bill.day,.int x.bill.city,.int x.bill.pay,.int x.bill.need,.int x.bill.rate,.int x.bill.flags,.int x.bill.parts,signs x.signs,alters x.alters,acts x.acts,facts x.facts])[15]?.getD D.none=signs x.signs:=_root_.id rfl
theorem abL (r:Realm)(hr:Right r)(hd:RightD r)(forum:Int)(f:File)(day:Int)(hf:FewS f):ak T 31 [bq r,.int forum,cd f,.int day] (.int (No r forum f day)):=by
 refine .of_tree rfl (lA 98 (by kernel_rfl)) aps ?_;simp[Ql];refine⟨_,PU f day (by have:=hf.signs;omega) (by have:=hf.acts;omega) (by have:=hf.alters;omega) (by have:=hf.facts;omega),?_⟩;have hg:=hf.at_ day;have hb:(iP f day).bill=f.bill:=rfl;unfold No;generalize iP f day=g at*;simp;by_cases h0:g.signs=[]
 ·simp[h0]
 simp[h0];refine⟨_,To r hr forum 6 g day hg,_,ack _,_,aog g (by have:=hg.signs;omega) (by have:=hg.acts;omega),?_⟩;have hm:(if(D.int (sA (pY r forum 6 g day))).i<0 then D.int 0 else D.int (sA (pY r forum 6 g day)))=D.int (max (sA (pY r forum 6 g day)) 0):=by
  simp only[adZ];split
  ·rw[Int.max_eq_right (by omega)]
  ·rw[Int.max_eq_left (by omega)]
 rw[hm,hb];refine⟨_,abw r hd f.bill _ _,?_⟩;by_cases he:(tR r f.bill (vH g) (max (sA (pY r forum 6 g day)) 0)).2=0<;>simp[he]
end Rm
namespace Rm
open Go Go.Proofs Cx
end Rm
namespace Rm
open Go Go.Proofs Cx
structure View where
 realm:Realm
 forum:Int
 day:Int
 file:File
 form:Int
 due:Int
 deriving Inhabited
def de (x:View):D:=.agg [strs x.realm.currencies,oo x.realm.cities,groups x.realm.groups,firms x.realm.firms,orders x.realm.orders,usances x.realm.usances,rates x.realm.rates,halts x.realm.halts,.int x.forum,.int x.day,.int x.file.bill.drawer,.int x.file.bill.drawee,.int x.file.bill.payee,.int x.file.bill.sum,.int x.file.bill.currency,.int x.file.bill.tenor.kind,.int x.file.bill.tenor.n,.int x.file.bill.tenor.unit,.int x.file.bill.day,.int x.file.bill.city,.int x.file.bill.pay,.int x.file.bill.need,.int x.file.bill.rate,.int x.file.bill.flags,.int x.file.bill.parts,signs x.file.signs,alters x.file.alters,acts x.file.acts,facts x.file.facts,.int x.form,.int x.due]
@[simp] theorem auv (x:View):(de x).cells=[strs x.realm.currencies,oo x.realm.cities,groups x.realm.groups,firms x.realm.firms,orders x.realm.orders,usances x.realm.usances,rates x.realm.rates,halts x.realm.halts,.int x.forum,.int x.day,.int x.file.bill.drawer,.int x.file.bill.drawee,.int x.file.bill.payee,.int x.file.bill.sum,.int x.file.bill.currency,.int x.file.bill.tenor.kind,.int x.file.bill.tenor.n,.int x.file.bill.tenor.unit,.int x.file.bill.day,.int x.file.bill.city,.int x.file.bill.pay,.int x.file.bill.need,.int x.file.bill.rate,.int x.file.bill.flags,.int x.file.bill.parts,signs x.file.signs,alters x.file.alters,acts x.file.acts,facts x.file.facts,.int x.form,.int x.due]:=_root_.id rfl
@[simp] theorem axN (x:View):D.agg [strs x.realm.currencies,oo x.realm.cities,groups x.realm.groups,firms x.realm.firms,orders x.realm.orders,usances x.realm.usances,rates x.realm.rates,halts x.realm.halts,.int x.forum,.int x.day,.int x.file.bill.drawer,.int x.file.bill.drawee,.int x.file.bill.payee,.int x.file.bill.sum,.int x.file.bill.currency,.int x.file.bill.tenor.kind,.int x.file.bill.tenor.n,.int x.file.bill.tenor.unit,.int x.file.bill.day,.int x.file.bill.city,.int x.file.bill.pay,.int x.file.bill.need,.int x.file.bill.rate,.int x.file.bill.flags,.int x.file.bill.parts,signs x.file.signs,alters x.file.alters,acts x.file.acts,facts x.file.facts,.int x.form,.int x.due]=de x:=_root_.id rfl
@[simp] theorem auM (x:View):gZ 31 (de x)=de x:=_root_.id rfl
@[simp] theorem axY (x:View)(a0 a1 a2 a3 a4 a5 a6 a7 a8 a9 mS mT a12 mU mV pO pP pQ pR JF a20 a21 a22 JG a24 a25 a26 a27 a28 a29 a30:D):D.agg (cw [a0,a1,a2,a3,a4,a5,a6,a7,a8,a9,mS,mT,a12,mU,mV,pO,pP,pQ,pR,JF,a20,a21,a22,JG,a24,a25,a26,a27,a28,a29,a30] 0 [strs x.realm.currencies,oo x.realm.cities,groups x.realm.groups,firms x.realm.firms,orders x.realm.orders,usances x.realm.usances,rates x.realm.rates,halts x.realm.halts,.int x.forum,.int x.day,.int x.file.bill.drawer,.int x.file.bill.drawee,.int x.file.bill.payee,.int x.file.bill.sum,.int x.file.bill.currency,.int x.file.bill.tenor.kind,.int x.file.bill.tenor.n,.int x.file.bill.tenor.unit,.int x.file.bill.day,.int x.file.bill.city,.int x.file.bill.pay,.int x.file.bill.need,.int x.file.bill.rate,.int x.file.bill.flags,.int x.file.bill.parts,signs x.file.signs,alters x.file.alters,acts x.file.acts,facts x.file.facts,.int x.form,.int x.due])=de x:=_root_.id rfl
@[simp] theorem aut (x:View):(de x).c 8=.int x.forum:=_root_.id rfl
@[simp] theorem auu (x:View):(de x).c 9=.int x.day:=_root_.id rfl
@[simp] theorem at6 (x:View):(de x).c 10=.int x.file.bill.drawer:=_root_.id rfl
@[simp] theorem at7 (x:View):(de x).c 11=.int x.file.bill.drawee:=_root_.id rfl
@[simp] theorem aua (x:View):(de x).c 12=.int x.file.bill.payee:=_root_.id rfl
@[simp] theorem aub (x:View):(de x).c 13=.int x.file.bill.sum:=_root_.id rfl
@[simp] theorem auc (x:View):(de x).c 14=.int x.file.bill.currency:=_root_.id rfl
@[simp] theorem aud (x:View):(de x).c 15=.int x.file.bill.tenor.kind:=_root_.id rfl
@[simp] theorem aue (x:View):(de x).c 16=.int x.file.bill.tenor.n:=_root_.id rfl
@[simp] theorem auf (x:View):(de x).c 17=.int x.file.bill.tenor.unit:=_root_.id rfl
@[simp] theorem aug (x:View):(de x).c 18=.int x.file.bill.day:=_root_.id rfl
@[simp] theorem auh (x:View):(de x).c 19=.int x.file.bill.city:=_root_.id rfl
@[simp] theorem aui (x:View):(de x).c 20=.int x.file.bill.pay:=_root_.id rfl
@[simp] theorem auj (x:View):(de x).c 21=.int x.file.bill.need:=_root_.id rfl
@[simp] theorem auk (x:View):(de x).c 22=.int x.file.bill.rate:=_root_.id rfl
@[simp] theorem aul (x:View):(de x).c 23=.int x.file.bill.flags:=_root_.id rfl
@[simp] theorem aum (x:View):(de x).c 24=.int x.file.bill.parts:=_root_.id rfl
@[simp] theorem aun (x:View):(de x).c 25=signs x.file.signs:=_root_.id rfl
@[simp] theorem auo (x:View):(de x).c 26=alters x.file.alters:=_root_.id rfl
@[simp] theorem aup (x:View):(de x).c 27=acts x.file.acts:=_root_.id rfl
@[simp] theorem auq (x:View):(de x).c 28=facts x.file.facts:=_root_.id rfl
@[simp] theorem aur (x:View):(de x).c 29=.int x.form:=_root_.id rfl
@[simp] theorem aus (x:View):(de x).c 30=.int x.due:=_root_.id rfl
@[simp] theorem auD (x:View):gZ 8 (de x)=bq x.realm:=_root_.id rfl
def ns:List Int→Int→Int
 |[],o=>o
 |x::l,o=>if x=0 then 0 else ns l (if x=2 then 2 else o)
theorem ajO {l:List Int}{o:Int}(hn:∀x,x∈l→¬x=0)(h2:o=1∨o=2):ns l o=if o=2∨2∈l then 2 else 1:=by
 induction l generalizing o with
 |nil=>rcases h2 with h|h<;>simp[ns,h]
 |cons x l ih=>
  have hx:=hn x (by simp);unfold ns;rw[if_neg hx];by_cases e:x=2
  ·rw[if_pos e,ih (fun y hy=>hn y (by simp[hy])) (.inr rfl)];simp[e]
  ·rw[if_neg e,ih (fun y hy=>hn y (by simp[hy])) h2];simp[rl e]
theorem WB:∀{l:List Int} {o:Int} {k:Nat} (hk:k<l.length),(∀j (hj:j<k),¬l[j]'(by omega)=0)→l[k]=0→ns l o=0
 |[],o,k,hk,_,_=>by simp at hk
 |x::l,o,0,hk,hj,h=>by
  unfold ns;rw[if_pos (by simpa using h)]
 |x::l,o,k+1,hk,hj,h=>by
  unfold ns;rw[if_neg (by have:=hj 0 (by omega);simpa using this)];exact WB (k:=k) (by simpa using hk) (fun j nj=>by have:=hj (j+1) (by omega);simpa using this) (by simpa using h)
def yC (l:List Int)(k:Nat):Int:=if 2∈l.take k then 2 else 1
theorem ajP (l:List Int)(hl:l.length≤100000):ak T 114 [ints l] (.int (ns l 1)):=by
 refine .of_tree rfl (lA 123 (by kernel_rfl)) apA ?_;simp[Qs];refine aH.scan l.length (fun k=>l.getD k 0≠0) (fun k=>[.int 0,.int (yC l k),.int k]) (fun _=>[]) ?_ (fun k hk hj ar=>?_) (fun k hk hj ar=>?_) (fun hj=>?_)
 ·simp[yC]
 ·have hw:=bA hk (by omega);have hx:¬l[k]=0:=by simpa [hk] using ar
  have hm:yC l (k+1)=if l[k]=2 then 2 else yC l k:=by
   unfold yC;rw[fL hk];simp only[cS,rk];by_cases e:l[k]=2
   ·simp[e]
   ·simp[e,rl e]
  rw[hm];simp[O8,CI,hk,hw,hx];by_cases e:l[k]=2<;>simp[e]
 ·have hx:l[k]=0:=by simpa [hk] using ar
  simp[O8,CI,hk,hx];rw[WB hk (fun j nj=>by simpa [show j<l.length by omega] using hj j nj) hx]
 ·simp[O8,CI];rw[ajO (fun x hx=>by obtain⟨j,fC,rfl⟩:=eZ hx;simpa [fC] using hj j fC) (.inl rfl)];simp[yC]
def jL (v:View)(q sign:Int):Int:=Jh (zQ v.realm v.forum q ⟨v.file,sign,sign,-1,v.due,v.day⟩)
theorem P5 (v:View)(hr:Right v.realm)(hf:FewS v.file)(q sign:Int):ak T 115 [de v,.int q,.int sign] (.int (jL v q sign)):=by
 refine .of_tree rfl (lA 122 (by kernel_rfl)) apD ?_;simp[Qv];refine⟨m9 (zQ v.realm v.forum q ⟨v.file,sign,sign,-1,v.due,v.day⟩),Tn v.realm hr v.forum q ⟨v.file,sign,sign,-1,v.due,v.day⟩ hf,Tp _⟩
def pV (f:File)(sign:Int)(n:Nat):Bool:=(f.alters.take n).any fun a=>decide (sign<a.at_)
def GZ (f:File):Int:=(f.alters.getD (f.alters.length-1) default).sum
def vO (v:View)(sign:Int):Int×Int:=
 if pV v.file sign v.file.alters.length=false then(0,pA v.file sign v.file.alters.length)
 else if jL v 4 sign=1 then(1,GZ v.file)
 else if jL v 4 sign=2 then(2,min (pA v.file sign v.file.alters.length) (GZ v.file))
 else(jL v 4 sign,pA v.file sign v.file.alters.length)
theorem api (v:View)(hr:Right v.realm)(hf:FewS v.file)(sign:Int):ak T 116 [de v,.int sign] (.tup [.int (vO v sign).1,.int (vO v sign).2]):=by
 refine .of_tree rfl (lA 124 (by kernel_rfl)) apE ?_;simp[Qw];have ui:=hf.alters;refine⟨_,ane v.file sign (by omega),?_⟩;refine aH.forRounds v.file.alters.length (fun k=>[.bool (pV v.file sign k),.int k]) (fun _=>[]) ?_ (fun k hk=>?_) ?_
 ·simp[pV]
 ·have hw:=bA hk (by omega);have hs:pV v.file sign (k+1)=(pV v.file sign k||decide (sign<v.file.alters[k].at_)):=by
   unfold pV;rw[fL hk,List.any_append];simp
  rw[hs];cases pV v.file sign k<;>simp[O9,CJ,hk,hw]
 ·unfold vO;cases ha:pV v.file sign v.file.alters.length
  ·simp[O9,CJ,ha]
  simp[O9,CJ,ha];have GK:0<v.file.alters.length:=by
   rcases Nat.eq_zero_or_pos v.file.alters.length with e|e
   ·simp[pV,SV.mp e] at ha
   ·exact e
  have hw:IntKind.i64.wrap ((v.file.alters.length:Int)-1)=(v.file.alters.length:Int)-1:=bE (by omega);have hn:((v.file.alters.length:Int)-1).toNat=v.file.alters.length-1:=by omega
  have af:v.file.alters.length-1<v.file.alters.length:=by omega
  have uu:GZ v.file=v.file.alters[v.file.alters.length-1].sum:=by simp[GZ,af]
  simp[hw,hn,af];refine⟨by omega,_,P5 v hr hf 4 sign,?_⟩;rw[uu];by_cases h1:jL v 4 sign=1
  ·simp[h1]
  by_cases h2:jL v 4 sign=2
  ·simp[h1,h2];split
   ·rw[Int.min_eq_right (by omega)]
   ·rw[Int.min_eq_left (by omega)]
  ·simp[h1,h2]
@[simp] theorem ayq (a0 a1 a2 a3 a4 a5 a6 x:D):cw [a0,a1,a2,a3,a4,a5,a6] 3 [x]=[a0,a1,a2,x,a4,a5,a6]:=_root_.id rfl
@[simp] theorem ayr (a0 a1 a2 a3 a4 a5 a6 x:D):cw [a0,a1,a2,a3,a4,a5,a6] 4 [x]=[a0,a1,a2,a3,x,a5,a6]:=_root_.id rfl
@[simp] theorem ays (a0 a1 a2 a3 a4 a5 a6 x:D):cw [a0,a1,a2,a3,a4,a5,a6] 5 [x]=[a0,a1,a2,a3,a4,x,a6]:=_root_.id rfl
def xC (v:View)(sign:Int):Effect:=
 let s:=v.file.signs.getD sign.toNat default
 ⟨sign,s.kind,s.who,if IY v.file sign v.day=true then 0 else ns [v.form,jL v 1 sign,jL v 2 sign] 1,(vO v sign).1,
    if s.kind=1∨s.kind=4 then min (vO v sign).2 s.sum else(vO v sign).2,decide (s.kind≠1)&&decide (cB .and .i64 s.flags 1=0)⟩
theorem aeK (v:View)(hr:Right v.realm)(hf:FewS v.file)(sign:Int)(h0:0≤sign)(h1:sign<v.file.signs.length):ak T 74 [de v,.int sign] (qa (xC v sign)):=by
 refine .of_tree rfl (lA 119 (by kernel_rfl)) apC ?_;obtain⟨k,rfl⟩:=mL h0;have hk:k<v.file.signs.length:=by omega
 have cQ:=apl v.file k v.day (by have:=hf.acts;omega);have Mx:=api v hr hf k;have oN:v.file.signs.getD (k:Int).toNat default=v.file.signs[k]:=by simp[hk]
 have V3:=P5 v hr hf 1 k;have dP:=P5 v hr hf 2 k;have hj:ak T 114 [.list [.int v.form,.int (jL v 1 k),.int (jL v 2 k)]] (.int (ns [v.form,jL v 1 k,jL v 2 k] 1)):=ajP [v.form,jL v 1 k,jL v 2 k] (by simp);have hif:(if v.file.signs[k].kind=1 then D.bool false else D.bool (decide (cB BinOp.and IntKind.i64 v.file.signs[k].flags 1=0)))=D.bool (decide (v.file.signs[k].kind≠1)&&decide (cB BinOp.and IntKind.i64 v.file.signs[k].flags 1=0)):=by
  by_cases h:v.file.signs[k].kind=1<;>simp[h]
 unfold xC;rw[oN];generalize jL v 1 k=s1 at*;generalize jL v 2 k=s2 at*;generalize ns [v.form,s1,s2] 1=jj at*;generalize vO v k=tx at*;obtain⟨t1,t2⟩:=tx;simp only at Mx;simp[Qu,hk,hif];refine⟨_,cQ,?_⟩;have uz:∀a b:Int,(if b<a then D.int b else D.int a)=D.int (min a b):=by
  intro a b;split
  ·rw[Int.min_eq_right (by omega)]
  ·rw[Int.min_eq_left (by omega)]
 cases BV:IY v.file k v.day
 ·simp[BV];refine⟨_,V3,_,dP,_,hj,_,Mx,?_⟩;by_cases h1:v.file.signs[k].kind=1∨v.file.signs[k].kind=4
  ·simp[h1,uz];rfl
  ·simp[h1,uz];rfl
 ·simp[BV];refine⟨_,Mx,?_⟩;by_cases h1:v.file.signs[k].kind=1∨v.file.signs[k].kind=4
  ·simp[h1,uz];rfl
  ·simp[h1,uz];rfl
def yI (r:Realm)(forum:Int)(f:File)(day:Int):View:=⟨r,forum,day,iP f day,Jh (pY r forum 0 (iP f day) day),No r forum (iP f day) day⟩
theorem amY (r:Realm)(hr:Right r)(hd:RightD r)(forum:Int)(f:File)(day:Int)(hf:FewS f):ak T 73 [bq r,.int forum,cd f,.int day] (de (yI r forum f day)):=by
 refine .of_tree rfl (lA 56 (by kernel_rfl)) apB ?_;simp[Qt];have hg:=hf.at_ day;refine⟨_,PU f day (by have:=hf.signs;omega) (by have:=hf.acts;omega) (by have:=hf.alters;omega) (by have:=hf.facts;omega),?_⟩;simp;refine⟨_,To r hr forum 0 _ day hg,_,Tp _,_,abL r hr hd forum _ day hg,?_⟩;simp;rfl
def p9 (r:Realm)(forum:Int)(f:File)(day:Int):List Effect:=(List.range (yI r forum f day).file.signs.length).map fun(k:Nat)=>xC (yI r forum f day) k
theorem SK (r:Realm)(hr:Right r)(hd:RightD r)(forum:Int)(f:File)(day:Int)(hf:FewS f):ak T 21 [bq r,.int forum,cd f,.int day] (AJ (p9 r forum f day)):=by
 refine .of_tree rfl (lA 55 (by kernel_rfl)) apz ?_;simp[Qr];refine⟨_,amY r hr hd forum f day hf,?_⟩;have hg:FewS (yI r forum f day).file:=hf.at_ day;have uB:(yI r forum f day).realm=r:=rfl;unfold p9;generalize yI r forum f day=v at*;have hl:=hg.signs;refine aH.forRounds v.file.signs.length (fun k=>[.none,.int k]) (fun k=>[AJ ((List.range k).map fun(k:Nat)=>xC v k)]) ?_ (fun k hk=>?_) ?_
 ·simp[AJ]
 ·have hw:=bA hk (by omega);have he:=aeK v (uB▸hr) hg k (by omega) (by omega);rw[D1,ki];have hln:((List.range k).map fun(k:Nat)=>xC v k).length=k:=by simp
  generalize ((List.range k).map fun(k:Nat)=>xC v k)=A at*;simp[Z3,H6,hk,hw];exact⟨_,he,by omega,by simp[AJ]⟩
 ·simp[Z3,H6]
end Rm
namespace Rm
open Go Go.Proofs Cx
theorem FK {n:Nat}{f:Nat→Int}(h:eL n f=0)(k:Nat)(hk:k<n):f k=0:=FL.1 h k hk
theorem adn {r:Realm}(h:hZ r=0)(k:Nat)(hk:k<r.orders.length):sC r.orders[k]=true:=by
 unfold hZ at h;rw[Dy] at h;have h1:=h (ju (qI r) 20 (ve r)) (by simp);unfold ju at h1;split at h1
 ·cases h1
 have h2:=FK h1 k (by simpa [qI] using hk);have h3:=(K4 h2).2;unfold ve at h3;simpa [hk] using h3
theorem agt {r:Realm}(hs:Small r)(h:hZ r=0):zB r:=by
 intro o ho;obtain⟨k,hk,rfl⟩:=eZ ho;have h1:=adn h k hk;obtain⟨hc,_⟩:=hs.order _ ho;refine⟨by omega,fun ch kp=>?_⟩;unfold sC at h1;simp only[aq] at h1;obtain⟨j,hj,rfl⟩:=eZ kp;have h2:=zN.1 h1.1 j hj;simpa [aD,hj] using h2
theorem agu {r:Realm}(hs:Small r)(h:hZ r=0):wc r:=by
 refine⟨by have:=hs.halts;omega,fun x hx=>?_⟩;obtain⟨k,hk,rfl⟩:=eZ hx;unfold hZ at h;rw[Dy] at h;have h1:=h (pw r) (by simp);unfold pw at h1;split at h1
 ·cases h1
 split at h1
 ·cases h1
 split at h1
 ·cases h1
 split at h1
 ·rename_i aP;have h2:=zN.1 aP k hk;simp[A8,wi,aD,hk] at h2;omega
 ·cases h1
structure Good (r:Realm) (f:File):Prop where
 right:Right r
 rightD:RightD r
 few:FewS f
theorem agv {r:Realm}{f:File}(hr:r.OK)(h:FQ r f=true):Good r f:=by
 unfold FQ ox at h;simp only[aq,decide_eq_true_eq] at h;obtain⟨⟨⟨h1,h2⟩,h3⟩,h4⟩:=h;have hs:=KX hr h1;refine⟨⟨agt hs h4,by have:=hs.orders;omega,fun o ho=>?_⟩,⟨hs,agu hs h4⟩,?_⟩
 ·have:=hs.order o ho;refine⟨?_,by omega⟩;exact hr.2.2.2.2.1.2 o ho
 ·simp[AP] at h2;exact⟨by omega,by omega,by omega,by omega⟩
end Rm
namespace Rm
open Go Go.Proofs Cx
end Rm
namespace Rm
open Go Go.Proofs Cx
end Rm
namespace Rm
open Go Go.Proofs Cx
@[simp] theorem axS:D.none.cells=[D.none]:=_root_.id rfl
end Rm
namespace Rm
open Go Go.Proofs Cx
end Rm
namespace Rm
open Go Cx
end Rm
namespace Rm
open Go Go.Proofs Cx
end Rm
namespace Rm
open Go Go.Proofs Cx
def KE (a:Act):Bool:=decide (a.kind=4)||decide (a.kind=5)
structure SumsOK (f:File):Prop where
 bill:1≤f.bill.sum∧f.bill.sum≤1099511627776
 rate:0≤f.bill.rate∧f.bill.rate≤1000
 alters:∀a,a∈f.alters→1≤a.sum∧a.sum≤1099511627776
 signs:∀s,s∈f.signs→s.kind=1∨s.kind=4→1≤s.sum∧s.sum≤1099511627776
end Rm
namespace Rm
open Go Go.Proofs Cx
end Rm
namespace Rm
open Go Go.Proofs Cx
structure RealmOK (r:Realm):Prop where
 rates:∀x,x∈r.rates→(1≤x.num∧x.num≤1073741824)∧1≤x.den∧x.den≤1073741824
 firms:∀x,x∈r.firms→0≤x.city∧x.city<r.cities.length
theorem aoc {r:Realm}(h:hZ r=0):RealmOK r:=by
 unfold hZ at h;rw[Dy] at h;refine⟨fun x hx=>?_,fun x hx=>?_⟩
 ·obtain⟨k,hk,rfl⟩:=eZ hx;have h1:=h (pw r) (by simp);unfold pw at h1;split at h1
  ·cases h1
  split at h1
  ·cases h1
  rename_i aP;have h2:=zN.1 (by simpa using aP) k hk;simp[CH,wi,hk] at h2;omega
 ·obtain⟨k,hk,rfl⟩:=eZ hx;have h1:=h (ju (ny r) 200 (ql r)) (by simp);unfold ju at h1;split at h1
  ·cases h1
  have h2:=FL.1 h1 k (by simpa [ny] using hk);have h3:=(K4 h2).2;simp[ql,aD,hk] at h3;omega
end Rm
namespace Rm
open Go Go.Proofs Cx
@[simp] theorem axR:D.none.b=false:=_root_.id rfl
theorem dU (n a b:Int):ak T 65 [.int n,.int a,.int b] (.bool (wi n a b)):=by
 refine .of_tree rfl (lA 42 (by kernel_rfl)) aqi ?_;simp[Q4];by_cases h:a≤n<;>simp[wi,h]
theorem lQ (n m:Int):ak T 104 [.int n,.int m] (.bool (aD n m)):=by
 refine .of_tree rfl (lA 38 (by kernel_rfl)) ars ?_;simp[R8];by_cases h:0≤n<;>simp[aD,h]
def I3 (b:Bill):Bool:=
 if b.tenor.kind=0∨b.tenor.kind=4 then decide (b.tenor.n=0)&&decide (b.tenor.unit=0)
 else if b.tenor.kind=1∨b.tenor.kind=2 then(decide (1≤b.tenor.n)&&decide (b.tenor.n≤400))&&(decide (b.tenor.unit=0)||decide (b.tenor.unit=1))
 else if b.tenor.kind=3 then(decide (b.day≤b.tenor.n)&&decide (b.tenor.n≤100000))&&decide (b.tenor.unit=0)
 else false
theorem arO (b:Bill):ak T 105 [dN b] (.bool (I3 b)):=by
 refine .of_tree rfl (lA 39 (by kernel_rfl)) art ?_;unfold I3;simp[R9];by_cases h0:b.tenor.kind=0
 ·by_cases h1:b.tenor.n=0<;>simp[h0,h1]
 by_cases h4:b.tenor.kind=4
 ·by_cases h1:b.tenor.n=0<;>simp[h4,h1]
 simp[h0,h4];by_cases k1:b.tenor.kind=1
 ·by_cases h1:1≤b.tenor.n<;>by_cases h2:b.tenor.n≤400<;>by_cases h3:b.tenor.unit=0<;>simp[k1,h1,h2,h3]
 by_cases k2:b.tenor.kind=2
 ·by_cases h1:1≤b.tenor.n<;>by_cases h2:b.tenor.n≤400<;>by_cases h3:b.tenor.unit=0<;>simp[k2,h1,h2,h3]
 simp[k1,k2];by_cases k3:b.tenor.kind=3
 ·by_cases h1:b.day≤b.tenor.n<;>by_cases h2:b.tenor.n≤100000<;>simp[k3,h1,h2]
 simp[k3]
def qJ (n m:Int):Bool:=decide (n=-1)||aD n m
def vR (r:Realm)(b:Bill):Bool:=((aD b.drawer r.firms.length&&aD b.drawee r.firms.length)&&qJ b.payee r.firms.length)&&qJ b.need r.firms.length
def td (r:Realm)(b:Bill):Bool:=(aD b.currency r.currencies.length&&aD b.city r.cities.length)&&aD b.pay r.cities.length
def y4 (b:Bill):Prop:=((((1≤b.sum∧b.sum≤1099511627776)∧0≤b.day)∧b.day≤100000)∧0≤b.rate)∧b.rate≤1000
def K7 (b:Bill):Prop:=((0≤b.flags∧b.flags≤7)∧(cB .and .i64 b.flags 4=0∨¬b.payee=-1))∧I3 b=true
structure BillOK (r:Realm) (b:Bill):Prop where
 realm:hZ r=0
 who:vR r b=true
 where_:td r b=true
 range:y4 b
 parts:1≤b.parts∧b.parts≤4
 form:K7 b
 usance:b.tenor.kind=4→∃u,u∈r.usances∧u.fr=b.city∧u.to=b.pay
def mK (P:Prop)(d:D):Prop:=∃e:Int,d=.int e∧(e=0↔P)
theorem mK.no {P:Prop}{e:Int}(h:¬P)(he:e≠0):mK P (.int e):=⟨e,rfl,fun x=>absurd x he,fun x=>absurd x h⟩
theorem mK.ok {P:Prop}(h:P):mK P (.int 0):=⟨0,rfl,fun _=>h,fun _=>rfl⟩
theorem arN (r:Realm)(hs:Small r)(b:Bill):∃d,ak T 63 [bq r,dN b] d∧mK (BillOK r b) d:=by
 refine ak.ex_of_tree rfl acy arq ?_;simp[R7];refine⟨_,PS r hs,?_⟩;by_cases h0:hZ r=0
 case neg=>
  simp[h0];exact .no (fun h=>h0 h.realm) h0
 simp[h0];refine⟨_,lQ _ _,?_⟩;cases h1:aD b.drawer r.firms.length
 ·simp;exact .no (fun h=>by simpa [vR,h1] using h.who) (by decide)
 simp;refine⟨_,lQ _ _,?_⟩;cases h2:aD b.drawee r.firms.length
 ·simp;exact .no (fun h=>by simpa [vR,h2] using h.who) (by decide)
 by_cases h3:qJ b.payee r.firms.length=true
 case neg=>
  have jV:¬b.payee=-1∧aD b.payee r.firms.length=false:=by simpa [qJ] using h3
  simp[jV.1];refine⟨_,lQ _ _,?_⟩;simp[jV.2];exact .no (fun h=>h3 (by have:=h.who;simp[vR] at this;exact this.1.2)) (by decide)
 by_cases h4:qJ b.need r.firms.length=true
 case neg=>
  have na:¬b.need=-1∧aD b.need r.firms.length=false:=by simpa [qJ] using h4
  have eB:mK (BillOK r b) (.int 1):=.no (fun h=>h4 (by have:=h.who;simp[vR] at this;exact this.2)) (by decide);by_cases hp:b.payee=-1
  ·simp[hp,na.1];refine⟨_,lQ _ _,?_⟩;simp[na.2];exact eB
  ·have jV:aD b.payee r.firms.length=true:=by simpa [qJ,hp] using h3
   simp[hp];refine⟨_,lQ _ _,?_⟩;simp[jV,na.1];refine⟨_,lQ _ _,?_⟩;simp[na.2];exact eB
 have GR:vR r b=true:=by simp[vR,h1,h2,h3,h4]
 have hp:b.payee=-1∨(¬b.payee=-1∧aD b.payee r.firms.length=true):=by
  by_cases e:b.payee=-1
  ·exact .inl e
  ·exact .inr ⟨e,by simpa [qJ,e] using h3⟩
 have hn:b.need=-1∨(¬b.need=-1∧aD b.need r.firms.length=true):=by
  by_cases e:b.need=-1
  ·exact .inl e
  ·exact .inr ⟨e,by simpa [qJ,e] using h4⟩
 have bad:¬td r b=true→mK (BillOK r b) (.int 1):=fun h=>.no (fun k=>h k.where_) (by decide);have fin:∀u:Int,(u=0↔∃u,u∈r.usances∧u.fr=b.city∧u.to=b.pay)→y4 b→(1≤b.parts∧b.parts≤4)→K7 b→td r b=true→mK (BillOK r b) (if b.tenor.kind=4 then .int u else .int 0):=by
  intro u hu h6 h7 h8 h9;by_cases e:b.tenor.kind=4
  ·rw[if_pos e];exact⟨u,rfl,fun h=>⟨h0,GR,h9,h6,h7,h8,fun _=>hu.1 h⟩,fun h=>hu.2 (h.usance e)⟩
  ·rw[if_neg e];exact .ok ⟨h0,GR,h9,h6,h7,h8,fun h=>absurd h e⟩
 obtain⟨un,ue,hu1,_,hu2⟩:=Tc r b.city b.pay (by have:=hs.us;omega);rcases hp with hp|⟨hp,eC⟩<;>rcases hn with hn|⟨hn,nk⟩
 case' inl.inl=>simp[hp,hn]
 case' inl.inr=>simp[hp,hn];refine⟨_,lQ _ _,?_⟩;simp[nk]
 case' inr.inl=>simp[hp,hn];refine⟨_,lQ _ _,?_⟩;simp[eC]
 case' inr.inr=>simp[hp,hn];refine⟨_,lQ _ _,?_⟩;simp[eC];refine⟨_,lQ _ _,?_⟩;simp[nk]
 all_goals
  refine⟨_,lQ _ _,?_⟩;cases h5:aD b.currency r.currencies.length
  ·simp;exact bad (by simp[td,h5])
  simp;refine⟨_,lQ _ _,?_⟩;cases h6:aD b.city r.cities.length
  ·simp;exact bad (by simp[td,h6])
  simp;refine⟨_,lQ _ _,?_⟩;cases h7:aD b.pay r.cities.length
  ·simp;exact bad (by simp[td,h7])
  have B2:td r b=true:=by simp[td,h5,h6,h7]
  simp;by_cases h8:y4 b
  case neg=>
   have Lc:((((b.sum<1∨1099511627776<b.sum)∨b.day<0)∨100000<b.day)∨b.rate<0)∨1000<b.rate:=by unfold y4 at h8;omega
   rw[if_pos Lc];exact .no (fun k=>h8 k.range) (by decide)
  have Lc:¬(((((b.sum<1∨1099511627776<b.sum)∨b.day<0)∨100000<b.day)∨b.rate<0)∨1000<b.rate):=by unfold y4 at h8;omega
  rw[if_neg Lc];by_cases h9:1≤b.parts∧b.parts≤4
  case neg=>
   rw[if_pos (by omega)];exact .no (fun k=>h9 k.parts) (by decide)
  rw[if_neg (by omega)];have JL:¬K7 b→mK (BillOK r b) (.int 2):=fun h=>.no (fun k=>h k.form) (by decide);by_cases g1:0≤b.flags∧b.flags≤7
  case neg=>
   have ic:b.flags<0∨7<b.flags:=by omega
   simp[g1,ic];exact JL (fun h=>g1 h.1.1)
  have ic:¬(b.flags<0∨7<b.flags):=by omega
  by_cases g2:cB .and .i64 b.flags 4=0∨¬b.payee=-1
  case neg=>
   have rF:¬cB .and .i64 b.flags 4=0∧b.payee=-1:=by simpa using g2
   first
        |exact absurd rF.2 hp
        |(simp[g1,ic,rF]
          exact JL (fun h=>g2 h.1.2))
  have g3:(b.payee=-1→cB .and .i64 b.flags 4=0):=fun e=>g2.resolve_right (fun h=>h e);simp[g1,ic,hp,g3];refine⟨_,arO b,?_⟩;cases gd:I3 b
  ·simp;exact JL (fun h=>by have:=h.2;rw[gd] at this;cases this)
  have hf:=fin ue hu2 h8 h9 ⟨⟨g1,g2⟩,gd⟩ B2;simp;by_cases e:b.tenor.kind=4
  ·simp[e] at hf ⊢;exact⟨_,hu1,hf⟩
  ·simp[e] at hf ⊢;exact hf
end Rm
