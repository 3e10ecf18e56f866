/-
  Shared texts of this claim.
-/
import Derived.Test.YtbagcfebdgiihaaGreatDoorSAN
set_option linter.unusedSimpArgs false
set_option linter.unusedVariables false
noncomputable section
namespace Rm
open Go Go.Proofs Cx
def lX (n:Nat)(g:Nat→Bool):Int:=if(List.range n).findIdx g<n then((List.range n).findIdx g:Nat) else-1
theorem Cs (n:Nat)(g:Nat→Bool):(lX n g=-1∧∀k,k<n→g k=false)∨∃k:Nat,k<n∧lX n g=k∧g k=true∧∀i,i<k→g i=false:=by
 unfold lX;split
 ·rename_i h;refine .inr ⟨_,h,rfl,?_,fun i hi=>?_⟩
  ·have:=List.findIdx_getElem (p:=g) (xs:=List.range n) (w:=by simpa using h);simpa using this
  ·have:=List.not_of_lt_findIdx (p:=g) (xs:=List.range n) hi;simpa using this
 ·rename_i h;refine .inl ⟨rfl,fun k hk=>?_⟩;have:=List.not_of_lt_findIdx (p:=g) (xs:=List.range n) (i:=k) (by omega);simpa using this
theorem MZ {n:Nat}{g:Nat→Bool}(h:∀k,k<n→g k=false):lX n g=-1:=by
 rcases Cs n g with⟨h1,_⟩|⟨k,hk,_,h2,_⟩
 ·exact h1
 ·rw[h k hk] at h2;cases h2
theorem M0 {n k:Nat}{g:Nat→Bool}(hk:k<n)(h:g k=true)(hj:∀i,i<k→g i=false):lX n g=k:=by
 rcases Cs n g with⟨_,h1⟩|⟨m,hm,h1,h2,h3⟩
 ·rw[h1 k hk] at h;cases h
 ·rcases Nat.lt_trichotomy m k with h4|h4|h4
  ·rw[hj m h4] at h2;cases h2
  ·rw[h1,h4]
  ·rw[h3 k h4] at h;cases h
theorem WH (n:Nat)(g:Nat→Bool):decide (0≤lX n g)=(List.range n).any g:=by
 rcases Cs n g with⟨h1,h2⟩|⟨m,hm,h1,h2,h3⟩
 ·rw[h1]
  symm
  simp;exact h2
 ·rw[h1];simp;exact⟨m,hm,h2⟩
theorem abz (l:List Rule)(f:Nat)(caps:List D)(g:Nat→Bool)(hg:∀k (hk:k<l.length),ak T f (qG l[k]::caps) (.bool (g k)))(hl:l.length≤4294967296):
 ak T 188 [rules l,.clo f caps] (.int (lX l.length g)):=by
 refine .of_tree rfl (lA 80 (by kernel_rfl)) ari ?_;simp[RN];refine .scan l.length (fun k=>g k=false) (fun k=>[.int 0,.int k]) (fun _=>[]) ?_ (fun k hk hj ho=>?_) (fun k hk hj ho=>?_) (fun hj=>?_)
 ·simp
 ·have hw:=bI hk hl;simp[PN,Dv,hk,hw];refine⟨_,_,⟨rfl,rfl⟩,_,hg k hk,?_⟩;simp[ho,hw]
 ·have he:=M0 hk (by simpa using ho) hj;simp[PN,Dv,hk,he];refine⟨_,_,⟨rfl,rfl⟩,_,hg k hk,?_⟩;simp[ho]
 ·have he:=MZ hj;simp[PN,Dv,he]
theorem abA (l:List Int)(f:Nat)(caps:List D)(g:Nat→Bool)(hg:∀k (hk:k<l.length),ak T f (.int l[k]::caps) (.bool (g k)))(hl:l.length≤4294967296):
 ak T 247 [ints l,.clo f caps] (.int (lX l.length g)):=by
 refine .of_tree rfl (lA 75 (by kernel_rfl)) arj ?_;simp[RO];refine .scan l.length (fun k=>g k=false) (fun k=>[.int 0,.int k]) (fun _=>[]) ?_ (fun k hk hj ho=>?_) (fun k hk hj ho=>?_) (fun hj=>?_)
 ·simp
 ·have hw:=bI hk hl;simp[PO,Dw,hk,hw,ints];refine⟨_,_,⟨rfl,rfl⟩,_,hg k hk,?_⟩;simp[ho,hw]
 ·have he:=M0 hk (by simpa using ho) hj;simp[PO,Dw,hk,he,ints];refine⟨_,_,⟨rfl,rfl⟩,_,hg k hk,?_⟩;simp[ho]
 ·have he:=MZ hj;simp[PO,Dw,he,ints]
theorem aby (l:List Alter)(f:Nat)(caps:List D)(g:Nat→Bool)(hg:∀k (hk:k<l.length),ak T f (nG l[k]::caps) (.bool (g k)))(hl:l.length≤4294967296):
 ak T 246 [alters l,.clo f caps] (.int (lX l.length g)):=by
 refine .of_tree rfl (lA 66 (by kernel_rfl)) arh ?_;simp[RM];refine .scan l.length (fun k=>g k=false) (fun k=>[.int 0,.int k]) (fun _=>[]) ?_ (fun k hk hj ho=>?_) (fun k hk hj ho=>?_) (fun hj=>?_)
 ·simp
 ·have hw:=bI hk hl;simp[PM,Du,hk,hw];refine⟨_,_,⟨rfl,rfl⟩,_,hg k hk,?_⟩;simp[ho,hw]
 ·have he:=M0 hk (by simpa using ho) hj;simp[PM,Du,hk,he];refine⟨_,_,⟨rfl,rfl⟩,_,hg k hk,?_⟩;simp[ho]
 ·have he:=MZ hj;simp[PM,Du,he]
theorem abr (l:List Int)(f:Nat)(caps:List D)(g:Nat→Bool)(hg:∀k (hk:k<l.length),ak T f (.int l[k]::caps) (.bool (g k)))(hl:l.length≤4294967296):
 ak T 222 [ints l,.clo f caps] (.bool ((List.range l.length).any g)):=by
 refine .of_tree rfl (lA 74 (by kernel_rfl)) arc ?_;simp[RJ];refine⟨_,abA l f caps g hg hl,?_⟩;have:=WH l.length g;simp[←this]
theorem abq (l:List Alter)(f:Nat)(caps:List D)(g:Nat→Bool)(hg:∀k (hk:k<l.length),ak T f (nG l[k]::caps) (.bool (g k)))(hl:l.length≤4294967296):
 ak T 217 [alters l,.clo f caps] (.bool ((List.range l.length).any g)):=by
 refine .of_tree rfl (lA 65 (by kernel_rfl)) arb ?_;simp[RI];refine⟨_,aby l f caps g hg hl,?_⟩;have:=WH l.length g;simp[←this]
def oZ (cs:List Cell)(t:Tm):Cell:=if(lD t).2=0 then bk 8 cs t else dH
theorem TZ {t:Tm}(h:(lD t).2=0):cJ 8 t≤60∧bP 8 t=((lD t).1,0):=by
 unfold lD at h ⊢;split at h
 ·cases h
 ·rename_i hm;rw[if_neg hm];exact⟨by omega,by rw[←h]⟩
theorem apv (t:Tm)(cs:List Cell)(ht:t.OK):ak T 131 [du t,cells cs] (cN (oZ cs t)):=by
 refine .of_tree rfl (lA 88 (by kernel_rfl)) arw ?_;simp[RZ,oZ];refine⟨_,aa5 t ht,?_⟩;by_cases h:(lD t).2=0
 ·obtain⟨h1,h2⟩:=TZ h;simp[h];refine⟨_,aa7 8 cs t _ ht h1 h2,?_⟩;simp
  try rfl
 ·simp[h]
  try rfl
def NF:List Int:=[6,7,10,12,13,14,15,16,20,21]
def oC (ask:Int):Int×Bool:=if ask<0∨22≤ask then(0,false) else if hasB NF ask then(0,true) else(1,true)
theorem Oz (ask:Int):ak T 127 [.int ask] (.tup [.int (oC ask).1,.bool (oC ask).2]):=by
 refine .of_tree rfl (lA 70 (by kernel_rfl)) aqr ?_;simp[QY,oC];by_cases h0:ask<0
 ·simp[h0]
 by_cases h1:22≤ask
 ·simp[h0,h1]
 simp[h0,h1];refine⟨_,tP NF ask (by decide),?_⟩;cases h:hasB NF ask<;>simp[h]
def Hv:Tm:=⟨0,0,[]⟩
def tz (o:Order)(ask:Int)(k:Nat):Bool:=decide ((o.rules.getD k default).ask=ask)
def DL (o:Order)(i:Int):Tm:=(o.rules.getD i.toNat default).term
def findF (o:Order)(ask:Int):Tm×Int:=
 if(oC ask).2=false then(Hv,1) else if lX o.rules.length (tz o ask)<0 then(Hv,4) else
    if(lD (DL o (lX o.rules.length (tz o ask)))).2≠0∨(lD (DL o (lX o.rules.length (tz o ask)))).1≠(oC ask).1 then(Hv,11) else(DL o (lX o.rules.length (tz o ask)),0)
theorem aaK {o:Order}(ho:o.OK){m:Nat}(hm:m<o.rules.length):o.rules[m].term.OK:=(ho.2.2 _ (cM hm)).2
theorem ND:Hv.OK:=by
 exact .mk 0 0 [] (by unfold aZ;omega) (by unfold aZ;omega) (by decide) (fun _ h=>by cases h)
theorem afo {o:Order}(ho:o.OK)(ask:Int):(findF o ask).1.OK:=by
 unfold findF;split
 ·exact ND
 split
 ·exact ND
 split
 ·exact ND
 ·rename_i h _;rcases Cs o.rules.length (tz o ask) with⟨h1,h2⟩|⟨m,hm,h1,h2,h3⟩
  ·exact absurd (by rw[h1];decide) h
  ·rw[h1];simp[DL,hm];exact aaK ho hm
theorem afm (r:Rule)(ask:Int):ak T 189 [qG r,.ref (.int ask)] (.bool (decide (r.ask=ask))):=by
 refine .of_tree rfl (lA 79 (by kernel_rfl)) aqs ?_;simp[Q0]
theorem am7 (o:Order)(ask:Int)(ho:o.OK)(hl:o.rules.length≤4294967296):ak T 130 [jF o,.int ask] (.tup [du (findF o ask).1,.int (findF o ask).2]):=by
 refine .of_tree rfl (lA 78 (by kernel_rfl)) aqt ?_;simp[QZ,findF];refine⟨_,Oz ask,?_⟩;cases h0:(oC ask).2
 ·simp[h0]
  try rfl
 simp[h0];refine⟨_,abz o.rules 189 [.ref (.int ask)] (tz o ask) (fun k hk=>by simpa [tz,hk] using afm o.rules[k] ask) hl,?_⟩;rcases Cs o.rules.length (tz o ask) with⟨h1,h2⟩|⟨m,hm,h1,h2,h3⟩
 ·rw[h1];simp
  try rfl
 ·rw[h1];have BX:¬((m:Int)<0):=by omega
  have htm:o.rules[m].term.OK:=aaK ho hm;simp[hm,DL,BX];refine⟨_,aa5 _ htm,?_⟩;by_cases h4:(lD o.rules[m].term).2=0<;>by_cases h5:(lD o.rules[m].term).1=(oC ask).1<;>simp[h4,h5]<;>try rfl
def ny (o:Order)(ask:Int)(cs:List Cell):Cell×Int:=
 if(findF o ask).2≠0 then(dH,(findF o ask).2) else
    (if(oC ask).1=0∧(oZ cs (findF o ask).1).known=true then⟨true,min (max (oZ cs (findF o ask).1).n 0) 20000⟩ else oZ cs (findF o ask).1,0)
theorem am6 (o:Order)(ask:Int)(cs:List Cell)(ho:o.OK)(hl:o.rules.length≤4294967296):ak T 85 [jF o,.int ask,cells cs] (.tup [cN (ny o ask cs).1,.int (ny o ask cs).2]):=by
 refine .of_tree rfl (lA 77 (by kernel_rfl)) aqq ?_;simp[QX];refine⟨_,am7 o ask ho hl,?_⟩;have hf:(findF o ask).1.OK:=afo ho ask;by_cases h:(findF o ask).2=0
 ·simp[h,ny];refine⟨_,apv _ cs hf,_,Oz ask,?_⟩;generalize oZ cs (findF o ask).1=c;obtain⟨kn,n⟩:=c;by_cases h1:(oC ask).1=0
  ·cases kn
   ·simp[h1,cN]
   ·by_cases h2:n<0
    ·have:min (max n 0) 20000=0:=by omega
     simp[h1,cN,h2,this];rfl
    ·by_cases h3:20000<n
     ·have:min (max n 0) 20000=20000:=by omega
      simp[h1,cN,h2,h3,this];rfl
     ·have:min (max n 0) 20000=n:=by omega
      simp[h1,cN,h2,h3,this];rfl
  ·simp[h1,cN]
 ·simp[h,ny]
  try rfl
end Rm
namespace Rm
open Go Go.Proofs Cx
theorem aax (b:Bool):ak T 219 [.bool b] (cN (dL b)):=by
 refine .of_tree rfl (lA 68 (by kernel_rfl)) aq8 ?_;cases b<;>simp[RF,dL]<;>rfl
def kH (kind sign:Int)(x:Fact):Bool:=decide (x.kind=kind)&&decide (x.at_=sign)
def cU (f:File)(kind sign:Int):Cell:=match f.facts.find? (kH kind sign) with|none=>dH|some x=>dL (decide (x.n≠0))
theorem Bb {α:Type}{p:α→Bool}:∀{l:List α} {k:Nat} (hk:k<l.length),p l[k]=true→(∀j (hj:j<k),p (l[j]'(by omega))=false)→l.find? p=some l[k]
 |a::l,0,hk,h,hj=>by simp at h;simp[h]
 |a::l,k+1,hk,h,hj=>by
  have h0:=hj 0 (by omega);simp at h0;simp only[List.find?_cons,h0,List.getElem_cons_succ];exact Bb (by simpa using hk) (by simpa using h) (fun j cC=>by simpa using hj (j+1) (by omega))
theorem F3 {α:Type}{p:α→Bool}{l:List α}(h:∀j (hj:j<l.length),p l[j]=false):l.find? p=none:=by
 rw[tR];intro x hx;obtain⟨j,hj,rfl⟩:=fj hx;rw[h j hj];decide
theorem DF (f:File)(kind sign:Int)(hl:f.facts.length≤4294967296):ak T 220 [cB f,.int kind,.int sign] (cN (cU f kind sign)):=by
 refine .of_tree rfl (lA 69 (by kernel_rfl)) aq4 ?_;simp[RC];refine .scan f.facts.length (fun k=>kH kind sign (f.facts.getD k default)=false) (fun k=>[.int k]) (fun _=>[cN dH]) ?_ (fun k hk hj ho=>?_) (fun k hk hj ho=>?_) (fun hj=>?_)
 ·simp
 ·have hw:=bI hk hl;simp[hk,kH] at ho;by_cases h1:f.facts[k].kind=kind<;>by_cases h2:f.facts[k].at_=sign
  ·exact absurd h2 (ho h1)
  all_goals simp[PH,Dr,hk,hw,h1,h2]
 ·have hw:=bI hk hl;have hf:cU f kind sign=dL (decide (f.facts[k].n≠0)):=by
   unfold cU;rw[Bb hk (by simpa [hk] using ho) (fun j cC=>by have:=hj j cC;simpa [show j<f.facts.length by omega] using this)]
  simp[hk,kH] at ho;simp[PH,Dr,hk,hw,ho,hf];refine⟨_,aax _,?_⟩;simp
  try rfl
 ·have hf:cU f kind sign=dH:=by
   unfold cU;rw[F3 (fun j cC=>by have:=hj j cC;simpa [cC] using this)]
  simp[PH,Dr,hf]
  try rfl
def fO (r:Realm)(c:Int):Int:=if aC c r.cities.length=true then(r.cities.getD c.toNat default).order else-1
theorem ox (r:Realm)(c:Int):ak T 181 [bA r,.int c] (.int (fO r c)):=by
 refine .of_tree rfl (lA 67 (by kernel_rfl)) aqR ?_;simp[Ro,fO];refine⟨_,fe c r.cities.length,?_⟩;cases h:aC c r.cities.length
 ·simp[h]
 ·simp[aC] at h;have h1:c.toNat<r.cities.length:=by omega
  simp[h,h1]
def rH (day:Int)(l:List Sign):List Sign:=l.takeWhile fun s=>decide (s.day≤day)
def upA (day:Int)(l:List Act):List Act:=l.takeWhile fun s=>decide (s.day≤day)
def oP (n:Nat)(a:Alter):Bool:=decide (a.at_≤(n:Int))
def j6 (n:Nat)(x:Fact):Bool:=aC x.at_ n
def cO (f:File)(day:Int):File:=
 ⟨f.bill,rH day f.signs,f.alters.filter (oP (rH day f.signs).length),upA day f.acts,f.facts.filter (j6 (rH day f.signs).length)⟩
theorem Js {α:Type}(p:α→Bool):∀(l:List α),∃m,m≤l.length∧l.takeWhile p=l.take m∧(∀k (hk:k<l.length),k<m→p l[k]=true)∧(∀hk:m<l.length,p l[m]=false)
 |[]=>⟨0,by simp,by simp,fun k hk=>by simp at hk,fun hk=>by simp at hk⟩
 |a::l=>by
  by_cases h:p a=true
  ·obtain⟨m,h1,h2,h3,h4⟩:=Js p l;refine⟨m+1,by simp;omega,by simp[h,h2],fun k hk hm=>?_,fun hk=>?_⟩
   ·cases k with
    |zero=>simpa using h
    |succ k=>simpa using h3 k (by simpa using hk) (by omega)
   ·simpa using h4 (by simpa using hk)
  ·refine⟨0,by simp,by simp[h],fun k hk hm=>by omega,fun hk=>by simpa using h⟩
theorem Jd {α:Type}(p:α→Bool)(l:List α){k:Nat}(hk:k<l.length):(l.take (k+1)).filter p=(l.take k).filter p++if p l[k] then[l[k]] else[]:=by
 rw[gx hk,Ed]
 congr 1
 cases h:p l[k]<;>simp[h]
def rR (b:Bill)(w x y z:D):D:=.agg [.int b.drawer,.int b.drawee,.int b.payee,.int b.sum,.int b.currency,.int b.tenor.kind,.int b.tenor.n,.int b.tenor.unit,.int b.day,.int b.city,.int b.pay,.int b.need,.int b.rate,.int b.flags,.int b.parts,w,x,y,z]
@[simp] theorem auW (b:Bill)(w x y z:D):D.agg (cr (rR b w x y z).cells 18 [D.none])=rR b w x y .none:=_root_.id rfl
def ki {α:Type}(l:List α):D:=match l with|[]=>.list []|_=>.none
@[simp] theorem axn {α:Type}:ki ([]:List α)=.list []:=rfl
@[simp] theorem axm {α:Type}(l:List α)(x:α):ki (l++[x])=.none:=by cases l<;>rfl
theorem P0 (f:File)(day:Int)(h1:f.signs.length≤4294967295)(h2:f.acts.length≤4294967295)(h3:f.alters.length≤4294967295)(h4:f.facts.length≤4294967295):ak T 29 [cB f,.int day] (cB (cO f day)):=by
 refine .of_tree rfl (lA 57 (by kernel_rfl)) aq3 ?_;simp[RB];obtain⟨m,hm,hS,Vd,yg⟩:=Js (fun s:Sign=>decide (s.day≤day)) f.signs;obtain⟨n,hn,hA,hA1,hA2⟩:=Js (fun s:Act=>decide (s.day≤day)) f.acts;refine aH.forRounds m (fun k=>[.int k]) (fun k=>[signs (f.signs.take k),rR f.bill (ki (f.signs.take k)) (.list []) (.list []) (.list [])]) ?_ (fun k hk=>?_) ?_
 ·simp[rR,signs]
  try rfl
 ·have bL:k<f.signs.length:=by omega
  have hw:=bI bL (by omega);have hd:=Vd k bL hk;simp at hd;have fH:¬day<f.signs[k].day:=by omega
  have hle:(k:Int)+1≤4294967296:=by omega
  have ht:=gx bL;rw[ht];have hlen:(f.signs.take k).length=k:=by simp;omega
  generalize f.signs.take k=A at*;simp[PB,Dm,bL,hw,fH,hlen];exact⟨hle,by simp[signs],rfl⟩
 have hSl:(f.signs.take m).length≤4294967295:=by rw[gd];omega
 have hAt:cO f day=⟨f.bill,f.signs.take m,f.alters.filter (oP (f.signs.take m).length),f.acts.take n,f.facts.filter (j6 (f.signs.take m).length)⟩:=by
  unfold cO rH upA;rw[hS,hA]
 rw[hAt];generalize f.signs.take m=S at*;have hAl:(f.acts.take n).length≤4294967295:=by rw[gd];omega
 by_cases eF:m<f.signs.length
 case' pos=>
  have hd:=yg eF;simp at hd;simp[PB,Dm,eF,hd];generalize D.bool true=bb
 case' neg=>
  have BS:m=f.signs.length:=by omega
  simp[PB,Dm,eF,BS];generalize D.bool false=bb
 all_goals
  refine aH.forRounds n (fun k=>[.int k]) (fun k=>[acts (f.acts.take k),rR f.bill (ki S) (.list []) (ki (f.acts.take k)) (.list [])]) ?_ (fun k hk=>?_) ?_
  ·simp[acts]
  ·have bL:k<f.acts.length:=by omega
   have hw:=bI bL (by omega);have hd:=hA1 k bL hk;simp at hd;have fH:¬day<f.acts[k].day:=by omega
   have hle:(k:Int)+1≤4294967296:=by omega
   have ht:=gx bL;rw[ht];have hlen:(f.acts.take k).length=k:=by simp;omega
   generalize f.acts.take k=A at*;simp[PD,Dn,bL,hw,fH,hlen];exact⟨hle,by simp[acts],rfl⟩
  generalize f.acts.take n=A at*;by_cases ke:n<f.acts.length
  case' pos=>
   have hd:=hA2 ke;simp at hd;simp[PD,Dn,ke,hd];generalize D.bool true=bc
  case' neg=>
   have nR:n=f.acts.length:=by omega
   simp[PD,Dn,ke,nR];generalize D.bool false=bc
  all_goals
   refine aH.forRounds f.alters.length (fun k=>[.int k]) (fun k=>[rR f.bill (ki S) (ki ((f.alters.take k).filter (oP S.length))) (ki A) (.list []),alters ((f.alters.take k).filter (oP S.length))]) ?_ (fun k hk=>?_) ?_
   ·simp[alters]
   ·have hw:=bI hk (by omega);have ht:=Jd (oP S.length) f.alters hk;rw[ht];have hlen:((f.alters.take k).filter (oP S.length)).length≤k:=gy (qh _ _) (by simp;omega);generalize (f.alters.take k).filter (oP S.length)=B at*;by_cases hd:f.alters[k].at_≤(S.length:Int)
    ·simp[PF,Dp,oP,hk,hw,hd];exact⟨by omega,rfl,by simp[alters]⟩
    ·simp[PF,Dp,oP,hk,hw,hd]
   simp[PF,Dp];generalize f.alters.filter (oP S.length)=B at*;refine aH.forRounds f.facts.length (fun k=>[.int k]) (fun k=>[rR f.bill (ki S) (ki B) (ki A) (ki ((f.facts.take k).filter (j6 S.length))),facts ((f.facts.take k).filter (j6 S.length))]) ?_ (fun k hk=>?_) ?_
   ·simp[facts]
   ·have hw:=bI hk (by omega);have ht:=Jd (j6 S.length) f.facts hk;rw[ht];have hlen:((f.facts.take k).filter (j6 S.length)).length≤k:=gy (qh _ _) (by simp;omega);generalize (f.facts.take k).filter (j6 S.length)=C at*;cases hd:aC f.facts[k].at_ S.length
    ·simp[PG,Dq,j6,hk,hw,hd];refine⟨_,oy _ _,?_⟩;simp[hd,hw]
    ·simp[PG,Dq,j6,hk,hw,hd];refine⟨_,oy _ _,?_⟩;simp[hd,hw];exact⟨by omega,rfl,by simp[facts]⟩
   simp[PG,Dq];rfl
end Rm
namespace Rm
open Go Go.Proofs Cx
def yZ:List Int→Int
 |[]=>-1
 |x::l=>l.foldl min x
theorem abK (x:Int)(l:List Int)(hl:l.length<4294967296):ak T 125 [ints (x::l)] (.int (yZ (x::l))):=by
 refine .of_tree rfl (lA 101 (by kernel_rfl)) arn ?_;have h0:¬((l.length:Int)+1<1):=by omega
 simp[RR,h0,yZ,ints];refine aH.forRounds l.length (fun k=>[.int ((l.take k).foldl min x),.int ((k:Int)+1)]) (fun k=>[]) ?_ (fun k hk=>?_) ?_
 ·simp
 ·have hw:IntKind.i64.wrap ((k:Int)+1+1)=(k:Int)+1+1:=bG (by omega);rw[gx hk,wM];generalize (l.take k).foldl min x=y;have ht:((k:Int)+1).toNat=k+1:=by omega
  have af:(k:Int)+1<(l.length:Int)+1:=by omega
  simp[aat,IM,hk,hw,ht,af];refine⟨by omega,?_⟩;by_cases h:l[k]<y
  ·simp[h];omega
  ·simp[h];omega
 ·simp[aat,IM]
def kZ (f:File)(n:Nat):List Int:=if f.bill.tenor.kind=1 then((f.signs.take n).filter (fun s=>decide (s.kind=1))).map (·.day) else[]
def jY (f:File)(n:Nat):List Int:=if f.bill.tenor.kind=1 then((f.acts.take n).filter (fun s=>decide (s.kind=1))).map (·.day) else[]
def tC (f:File)(a:Act):Bool:=decide (f.bill.tenor.kind=0)&&decide (a.kind=2)
def p6 (f:File):Int:=match f.acts.find? (tC f) with|some a=>a.day|none=>yZ (kZ f f.signs.length++jY f f.acts.length)
theorem aot (f:File)(h1:f.signs.length≤100000)(h2:f.acts.length≤100000):ak T 83 [cB f] (.int (p6 f)):=by
 refine .of_tree rfl (lA 100 (by kernel_rfl)) aq5 ?_;simp[RD];refine aH.forRounds f.signs.length (fun k=>[.none,.int k]) (fun k=>[ints (kZ f k)]) ?_ (fun k hk=>?_) ?_
 ·simp[kZ,ints]
 ·have hw:=bI hk (by omega);have hs:kZ f (k+1)=kZ f k++if f.bill.tenor.kind=1∧f.signs[k].kind=1 then[f.signs[k].day] else[]:=by
   unfold kZ;by_cases h:f.bill.tenor.kind=1
   ·simp only[if_pos h,Jd _ _ hk,lx,h,true_and]
    congr 1
    by_cases h':f.signs[k].kind=1<;>simp[h']
   ·simp[h]
  have hlen:(kZ f k).length≤k:=by
   unfold kZ;split
   ·rw[eN];exact gy (qh _ _) (by simp;omega)
   ·simp
  rw[hs];generalize kZ f k=A at*;by_cases hc:f.bill.tenor.kind=1∧f.signs[k].kind=1
  ·simp[PJ,Ds,hk,hw,hc];exact⟨by omega,by simp[ints]⟩
  ·simp[PJ,Ds,hk,hw,hc]
 ·have hlS:(kZ f f.signs.length).length≤100000:=by
   unfold kZ;split
   ·rw[eN];exact gy (qh _ _) (by simp;omega)
   ·simp
  have hE:p6 f=match f.acts.find? (tC f) with|some a=>a.day|none=>yZ (kZ f f.signs.length++jY f f.acts.length):=rfl
  generalize kZ f f.signs.length=A at*;simp[PJ,Ds];refine aH.scan f.acts.length (fun k=>tC f (f.acts.getD k default)=false) (fun k=>[.int 0,.none,.int k]) (fun k=>[ints (A++jY f k)]) ?_ (fun k hk hj ho=>?_) (fun k hk hj ho=>?_) (fun hj=>?_)
  ·simp[jY,ints]
  ·have hw:=bI hk (by omega);have hs:jY f (k+1)=jY f k++if f.bill.tenor.kind=1∧f.acts[k].kind=1 then[f.acts[k].day] else[]:=by
        unfold jY;by_cases h:f.bill.tenor.kind=1
        ·simp only[if_pos h,Jd _ _ hk,lx,h,true_and]
         congr 1
         by_cases h':f.acts[k].kind=1<;>simp[h']
        ·simp[h]
   have hlen:(jY f k).length≤k:=by
        unfold jY;split
        ·rw[eN];exact gy (qh _ _) (by simp;omega)
        ·simp
   rw[hs];generalize jY f k=B at*;simp[tC,hk] at ho;by_cases hc:f.bill.tenor.kind=1∧f.acts[k].kind=1
   ·simp[Dt,wc,hk,hw,hc];exact⟨by omega,by simp[ints]⟩
   ·have hn:¬(f.bill.tenor.kind=0∧f.acts[k].kind=2):=fun h=>ho h.1 h.2;simp[Dt,wc,hk,hw,hc,hn]
  ·have hf:p6 f=f.acts[k].day:=by
        rw[hE,Bb hk (by simpa [hk] using ho) (fun j cC=>by have:=hj j cC;simpa [show j<f.acts.length by omega] using this)]
   simp[tC,hk] at ho;simp[Dt,wc,hk,ho,hf]
  ·have hf:p6 f=yZ (A++jY f f.acts.length):=by
        rw[hE,F3 (fun j cC=>by have:=hj j cC;simpa [cC] using this)]
   have hlA:(jY f f.acts.length).length≤100000:=by
        unfold jY;split
        ·rw[eN];exact gy (qh _ _) (by simp;omega)
        ·simp
   rw[hf];have hL:(A++jY f f.acts.length).length≤200000:=by rw[lu];omega
   generalize A++jY f f.acts.length=L at*;cases L with
   |nil=>simp[Dt,wc,yZ,ints]
   |cons x l=>
    have az:¬((l.length:Int)+1=0):=by omega
    simp[Dt,wc,az];exact abK x l (by simp at hL;omega)
end Rm
namespace Rm
open Go Go.Proofs Cx
def gg (g:Nat→Cell):D:=.list ((List.range 20).map fun i=>cN (g i))
theorem TV {g g':Nat→Cell}(h:∀i,i<20→g i=g' i):gg g=gg g':=by
 unfold gg
 congr 1
 exact tS fun i hi=>by rw[h i (by simpa using hi)]
theorem TW (g:Nat→Cell)(k:Nat)(c:Cell):D.list ((gg g).l.set k (cN c))=gg (fun i=>if i=k then c else g i):=by
 unfold gg
 congr 1
 show((List.range 20).map fun i=>cN (g i)).set k (cN c)=_;apply SU
 ·simp
 ·intro i h1 h2;simp at h2;rw[List.getElem_set];by_cases h:k=i
  ·simp[h]
  ·have h':¬i=k:=fun e=>h e.symm;simp[h,h']
@[simp] theorem avt (g:Nat→Cell):(gg g).l.length=20:=by
  show((List.range 20).map fun i=>cN (g i)).length=20;simp
theorem EE (g:Nat→Cell){k:Nat}(hk:k<20):(gg g).l[k]?.getD D.none=cN (g k):=by
 show((List.range 20).map fun i=>cN (g i))[k]?.getD D.none=cN (g k);simp[hk]
theorem adf (g:Nat→Cell){k:Nat}(hk:k<(gg g).l.length):(gg g).l[k]=cN (g k):=by
 have h:=EE g (k:=k) (by simpa using hk);rw[be hk] at h;exact h
theorem adh (g:Nat→Cell)(k:Nat)(c:Cell):(gg g).l.set k (cN c)=(gg (fun i=>if i=k then c else g i)).l:=congrArg D.l (TW g k c)
theorem adg (g:Nat→Cell):D.list (gg g).l=gg g:=rfl
@[simp] theorem ayU (x:Cell)(b:Bool)(n:Int):tE (cN x) 0 (D.agg [D.bool b,D.int n])=cN ⟨b,n⟩:=_root_.id rfl
def xX {α:Type}(l:List (Int×α))(val:α→Cell)(g0:Nat→Cell)(i:Nat):Cell:=match l.find? (fun p=>decide (p.1=(i:Int))) with|some p=>val p.2|none=>g0 i
def pO {α:Type}(enc:α→D)(p:Int×α):D:=.tup [.int p.1,enc p.2]
theorem Xk {α:Type}{J o:Nat}{ps cE:List Nat}{a:PC}{ρ:Env}{Q:Out→Prop}(l:List (Int×α))(enc:α→D)(val:α→Cell)(g0:Nat→Cell)
 (nd:∀p q,p∈l→q∈l→p.1=q.1→p=q) (P6:∀p,p∈l→0≤p.1) (he:ρ.o J=.tup [.list [],.map (l.map fun p=>(.int p.1,enc p.2))]) (h0:ρ.o o=gg g0)
 (step:∀p,p∈l→∀g done,aE T (oA [o] a) ((ρ.put ps (cE.map (pO enc p).tget) [o] [gg g]).setO J (.tup [.list (done++[pO enc p]),.map (l.map fun p=>(.int p.1,enc p.2))])) (fun y=>∃ρ',y=.next ρ'∧ρ'.o o=.list ((gg g).l.set p.1.toNat (cN (val p.2)))))
 (last:Q (.next (ρ.put [] [] [o] [gg (xX l val g0)]))):aH T (.meach J ps cE [o] a) ρ Q:=by
 have lR:gr (.map (l.map fun p=>((D.int p.1,enc p.2):D×D)))=l.map (pO enc):=by
  simp[gr,pO]
 refine .meachR _ he (fun done vo=>∃g:Nat→Cell,vo=[gg g]∧(∀p,p∈l→pO enc p∈done→g p.1.toNat=val p.2)∧∀i:Nat,(∀p,p∈l→pO enc p∈done→p.1≠i)→g i=g0 i) ⟨g0,by simp[h0],(fun p _ h=>by cases h),fun i _=>rfl⟩ (fun done x rest vo hp ⟨g,hv,mD,gE⟩=>?_) ⟨_,fun done hp vo ⟨g,hv,mD,gE⟩=>?_,last⟩
 ·subst hv;rw[lR] at hp;have hx:x∈l.map (pO enc):=hp.subset (by simp);obtain⟨p,eI,rfl⟩:=cZ.mp hx;refine wQ _ (fun y ⟨ρ',e,ho⟩=>⟨ρ',e,fun i=>if i=p.1.toNat then val p.2 else g i,by simp[ho,TW],fun q hq Mp=>?_,fun i hi=>?_⟩) (step p eI g done)
  ·have Mq:=P6 q hq;have nT:=P6 p eI;by_cases h:q.1=p.1
   ·rw[nd q p hq eI h];simp
   ·show(if q.1.toNat=p.1.toNat then val p.2 else g q.1.toNat)=val q.2;rw[if_neg (by omega)];rcases dg.mp Mp with h1|h1
    ·exact mD q hq h1
    ·simp[pO] at h1;exact absurd h1.1 h
  ·have nT:=P6 p eI;have dO:=hi p eI (by simp);show(if i=p.1.toNat then val p.2 else g i)=g0 i;rw[if_neg (by omega)];exact gE i fun q hq Mp=>hi q hq (by simp[Mp])
 ·rw[hv,lR] at*
  congr 1
  refine TV fun i hi=>?_;unfold xX;cases hf:l.find? (fun p=>decide (p.1=(i:Int))) with
  |some p=>
   have eI:=tT hf;have G0:p.1=(i:Int):=by simpa using z7 hf
   have:=mD p eI (hp.symm.subset (List.mem_map_of_mem eI));simp only;rw[←this,G0];rfl
  |none=>
   refine gE i fun p eI _=>?_;have:=tR.mp hf p eI;simpa using this
@[simp] theorem axK (a b:Int):dQ (D.int a) (D.int b)=decide (a=b):=by
  show((a==b)&&true)=decide (a=b);rw[Bool.and_true];by_cases h:a=b<;>simp[h]
def Bg (n k:Int):Bool:=decide (cj .and .i64 n k≠0)
def vm (s:Sign)(due:Int):Int:=if due=-1 then 0 else s.day-due
def JU (f:File)(sign:Int):Bool:=(List.range f.alters.length).any fun k=>decide ((f.alters.getD k default).at_≤sign)
def gF (c:Case):Int:=if c.holder<0 then 0 else c.holder
def l9 (c:Case)(s:Sign):List (Int×Int):=[(0,c.file.bill.sum),(1,c.file.bill.parts),(2,c.file.bill.tenor.kind),(3,c.file.bill.rate),(4,s.kind),(5,c.defence),(6,vm s c.due)]
def mY (r:Realm)(c:Case)(s:Sign):List (Int×Bool):=[(7,Bg c.file.bill.flags 1),(8,decide (c.file.bill.payee=-1)),(9,Bg c.file.bill.flags 4),(10,Bg c.file.bill.flags 2),(11,decide (fO r c.file.bill.city≠fO r c.file.bill.pay)),(12,JU c.file c.sign),(13,Bg s.flags 1),(14,decide (0<vm s c.due))]
def ph (r:Realm)(c:Case)(s:Sign):List Cell:=
 (l9 c s).map (fun p=>⟨true,p.2⟩)++(mY r c s).map (fun p=>dL p.2)++
    [cU c.file 0 c.sign,cU c.file 1 c.sign,cU c.file 2 c.sign,cU c.file 3 (gF c),cU c.file 4 (gF c)]
@[simp] theorem au0 (x:Case):iw 19 (eT x)=cB x.file:=_root_.id rfl
@[simp] theorem auY (x:Case):iw 15 (eT x)=dV x.file.bill:=_root_.id rfl
@[simp] theorem auZ (x:File):iw 15 (cB x)=dV x.bill:=_root_.id rfl
def kF (c:Case):Bool:=aC c.sign c.file.signs.length&&decide (-1≤c.holder)&&decide (gF c<c.file.signs.length)&&(decide (c.due=-1)||aC c.due 100001)
def fh (r:Realm)(c:Case):List Cell:=if kF c=true∧aC (c.file.signs.getD c.sign.toNat default).day 100001=true then ph r c (c.file.signs.getD c.sign.toNat default) else[]
theorem aou (r:Realm)(c:Case)(h2:c.file.facts.length≤100000)(h3:c.file.alters.length≤100000):ak T 184 [bA r,eT c] (cells (fh r c)):=by
 refine .of_tree rfl (lA 63 (by kernel_rfl)) aq7 ?_;cases hs:aC c.sign c.file.signs.length
 ·have hv:fh r c=[]:=by unfold fh kF;rw[hs];simp
  rw[hv];simp[tI];refine⟨_,oy _ _,?_⟩;simp[hs];rfl
 by_cases hh:c.holder< -1
 ·have hv:fh r c=[]:=by unfold fh kF;rw[hs];simp;intros;omega
  rw[hv];simp[tI,hh];exact⟨⟨_,oy _ _⟩,rfl⟩
 by_cases hm:(c.file.signs.length:Int)≤gF c
 ·have hv:fh r c=[]:=by unfold fh kF;rw[hs];simp;intros;omega
  rw[hv];unfold gF at hm;simp[tI,hm];exact⟨⟨_,oy _ _⟩,rfl⟩
 by_cases hd:c.due≠-1∧aC c.due 100001=false
 ·have hv:fh r c=[]:=by unfold fh kF;rw[hs];simp[hd]
  rw[hv];unfold gF at hm;obtain⟨bf,dN⟩:=hd;simp[tI,hh,hm,bf];refine⟨_,oy _ _,?_⟩;simp[hs,hh,hm,bf];refine⟨_,oy _ _,?_⟩;simp[hs,hh,hm,bf,dN];rfl
 have hcb:kF c=true:=by
  unfold kF;rw[hs];simp;refine⟨⟨by omega,by omega⟩,?_⟩;by_cases h:c.due=-1
  ·exact .inl h
  ·right;cases hb:aC c.due 100001
   ·exact absurd ⟨h,hb⟩ hd
   ·rfl
 have hlen:c.sign.toNat<c.file.signs.length:=by simp[aC] at hs;omega
 have dE:0≤c.sign∧c.sign<(c.file.signs.length:Int):=by simpa [aC] using hs
 obtain⟨s,Cd⟩:∃s:Sign,s=c.file.signs[c.sign.toNat]:=⟨_,rfl⟩
 have km:c.file.signs.getD c.sign.toNat default=s:=by rw[Cd];simp[hlen]
 have hv:fh r c=if aC s.day 100001=true then ph r c s else[]:=by
  unfold fh;rw[km,hcb];simp
 rw[hv];unfold gF at hm;by_cases BB:c.due=-1
 case' pos=>
  have Vs:(c.due=-1)=True:=eq_true BB;simp[tI,hh,hm,Vs];refine⟨_,oy _ _,?_⟩;simp[hs,hh,hm,Vs,hlen,←Cd,dE]
 case' neg=>
  have Bx:aC c.due 100001=true:=by
   cases hb:aC c.due 100001
   ·exact absurd ⟨BB,hb⟩ hd
   ·rfl
  simp[tI,hh,hm,BB];refine⟨_,oy _ _,?_⟩;simp[hs,hh,hm,BB];refine⟨_,oy _ _,?_⟩;simp[hs,hh,hm,BB,Bx,hlen,←Cd,dE]
 all_goals
  refine⟨_,oy _ _,?_⟩;cases Gw:aC s.day 100001
  ·simp[Gw];rfl
  simp[Gw,eu];refine Xk (l9 c s) D.int (fun n=>⟨true,n⟩) (fun _=>dH) ?_ ?_ ?_ ?_ (fun p hp g done=>?_) ?_
  ·intro p q hp hq h;simp[l9] at hp hq;rcases hp with rfl|rfl|rfl|rfl|rfl|rfl|rfl<;>rcases hq with rfl|rfl|rfl|rfl|rfl|rfl|rfl<;>first|rfl|(simp at h)
  ·intro p hp;simp[l9] at hp;rcases hp with rfl|rfl|rfl|rfl|rfl|rfl|rfl<;>simp
  ·have LQ:(if c.due=-1 then(0:Int) else IntKind.i64.wrap (s.day-c.due))=vm s c.due:=by
        unfold vm;by_cases h:c.due=-1
        ·simp[h]
        ·have Bx:aC c.due 100001=true:=by
          cases hb:aC c.due 100001
          ·exact absurd ⟨h,hb⟩ hd
          ·rfl
         simp[aC] at Bx Gw;rw[if_neg h,if_neg h];exact bG (by omega)
   simp[l9,eu,hlen,←Cd];rw[←LQ];by_cases h:c.due=-1<;>simp[h]
  ·simp[gg];rfl
  ·have hr:0≤p.1∧p.1<20:=by
        simp[l9] at hp;rcases hp with rfl|rfl|rfl|rfl|rfl|rfl|rfl<;>simp
   have hk:p.1.toNat<20:=by omega
   simp[aoi,PK,pO,EE g hk];exact hr
  have aid:∀k (hk:k<c.file.alters.length),ak T 218 (nG c.file.alters[k]::[.ref (eT c)]) (.bool (decide ((c.file.alters.getD k default).at_≤c.sign))):=fun k hk=>by
   refine .of_tree rfl (lA 64 (by kernel_rfl)) aq6 ?_;simp[RE,hk]
  simp;refine⟨_,abq c.file.alters _ _ _ aid (by omega),_,ox r _,_,ox r _,?_⟩;have LQ:(if c.due=-1 then(0:Int) else IntKind.i64.wrap (s.day-c.due))=vm s c.due:=by
   unfold vm;by_cases h:c.due=-1
   ·simp[h]
   ·have Bx:aC c.due 100001=true:=by
     cases hb:aC c.due 100001
     ·exact absurd ⟨h,hb⟩ hd
     ·rfl
    simp[aC] at Bx Gw;rw[if_neg h,if_neg h];exact bG (by omega)
  have LP:cells (ph r c s)=gg (fun i=>if i=15 then cU c.file 0 c.sign else if i=16 then cU c.file 1 c.sign else if i=17 then cU c.file 2 c.sign else if i=18 then cU c.file 3 (gF c) else if i=19 then cU c.file 4 (gF c) else xX (mY r c s) dL (xX (l9 c s) (fun n=>⟨true,n⟩) (fun _=>dH)) i):=by
   rfl
  generalize xX (l9 c s) (fun n=>(⟨true,n⟩:Cell)) (fun _=>dH)=g1 at*;refine Xk (mY r c s) D.bool dL g1 ?_ ?_ ?_ ?_ (fun p hp g done=>?_) ?_
  ·intro p q hp hq h;simp[mY] at hp hq;rcases hp with rfl|rfl|rfl|rfl|rfl|rfl|rfl|rfl<;>rcases hq with rfl|rfl|rfl|rfl|rfl|rfl|rfl|rfl<;>first|rfl|(simp at h)
  ·intro p hp;simp[mY] at hp;rcases hp with rfl|rfl|rfl|rfl|rfl|rfl|rfl|rfl<;>simp
  ·simp[mY,eu,hlen,←Cd,Bg];rw[←LQ];by_cases h:c.due=-1<;>simp[h,JU]
  ·simp
  ·have hr:0≤p.1∧p.1<20:=by
        simp[mY] at hp;rcases hp with rfl|rfl|rfl|rfl|rfl|rfl|rfl|rfl<;>simp
   have hk:p.1.toNat<20:=by omega
   simp[aoj,PL,pO,EE g hk];refine⟨_,aax _,?_⟩;simp[EE g hk];exact hr
  simp;generalize xX (mY r c s) dL g1=g2 at*;have hho:(if c.holder<0 then D.int 0 else D.int c.holder)=D.int (gF c):=by
   unfold gF;split<;>rfl
  rw[hho];refine⟨_,DF _ _ _ (by omega),_,DF _ _ _ (by omega),_,DF _ _ _ (by omega),_,DF _ _ _ (by omega),_,DF _ _ _ (by omega),?_⟩;rw[LP];simp only[adf,api,adh,adg];refine TV fun i hi=>?_;by_cases Ge:i=15
  ·subst Ge;simp
  by_cases qO:i=16
  ·subst qO;simp
  by_cases qP:i=17
  ·subst qP;simp
  by_cases ye:i=18
  ·subst ye;simp
  by_cases U1:i=19
  ·subst U1;simp
  simp[Ge,qO,qP,ye,U1]
end Rm
namespace Rm
open Go Go.Proofs Cx
def HS (n:Nat)(x:Int):Bool:=decide (x<0)||decide ((n:Int)≤x)
def kI (r:Realm)(a q:Int)(l:List Int):Bool:=
 !(decide (a<0)||decide ((r.orders.length:Int)≤a)||decide (q<0)||decide (22≤q)||decide (l.length≠5))&& !((List.range l.length).any fun k=>HS r.orders.length (l.getD k 0))
theorem afq (x n:Int):ak T 223 [.int x,.ref (.int n)] (.bool (decide (x<0)||decide (n≤x))):=by
 refine .of_tree rfl (lA 73 (by kernel_rfl)) aqb ?_;by_cases h:x<0<;>simp[QP,h]
theorem UI (r:Realm)(a q:Int)(l:List Int)(hl:l.length≤100000):ak T 186 [bA r,.int a,.int q,ints l] (.bool (kI r a q l)):=by
 refine .of_tree rfl (lA 72 (by kernel_rfl)) aqc ?_;by_cases h1:a<0
 ·simp[tH,kI,h1]
 by_cases h2:(r.orders.length:Int)≤a
 ·simp[tH,kI,h1,h2]
 by_cases h3:q<0
 ·simp[tH,kI,h1,h2,h3]
 by_cases h4:22≤q
 ·simp[tH,kI,h1,h2,h3,h4]
 by_cases h5:(l.length:Int)=5
 ·have Gi:l.length=5:=by omega
  simp[tH,h1,h2,h3,h4,Gi];refine⟨_,abr l 223 [.ref (.int r.orders.length)] (fun k=>HS r.orders.length (l.getD k 0)) (fun k hk=>by simpa [HS,hk] using afq l[k] r.orders.length) (by omega),?_⟩;simp only[kI,Gi];simp[h1,h2,h3,h4]
 ·have Gi:¬l.length=5:=by omega
  simp[tH,kI,h1,h2,h3,h4,Gi];intro h;omega
theorem La {r:Realm}{a q:Int}{l:List Int}(h:kI r a q l=true):(0≤a∧a<r.orders.length)∧l.length=5∧(∀x,x∈l→0≤x∧x<r.orders.length)∧∀b:Int,0≤b→b<r.orders.length→kI r b q l=true:=by
 unfold kI at h ⊢;rw[aq] at h;obtain⟨h1,h2⟩:=h;simp at h1;refine⟨by omega,h1.2,fun x hx=>?_,fun b iJ fm=>?_⟩
 ·obtain⟨k,hk,rfl⟩:=fj hx;simp[HS] at h2;have:=h2 k hk;simp[hk] at this;omega
 ·rw[h2];simp;omega
def zX (r:Realm):Prop:=∀o,o∈r.orders→o.choices.length≤100000∧∀ch,ch∈o.choices→0≤ch.by_∧ch.by_<5
def vn (q:Int)(ch:Choice):Bool:=decide (ch.ask=q)&&decide (ch.by_≠0)
def mO (r:Realm)(a:Int):Order:=r.orders.getD a.toNat default
def fp (r:Realm)(a q:Int)(l:List Int):Int×Bool:=
 (match(mO r a).choices.find? (vn q) with|some ch=>l.getD ch.by_.toNat 0|none=>a,match(mO r a).choices.find? (vn q) with|some ch=>ch.whole|none=>false)
theorem SQ (r:Realm)(nM:zX r)(a q:Int)(l:List Int)(hl:l.length≤100000)(hf:kI r a q l=true):
 ak T 187 [bA r,.int a,.int q,ints l] (.tup [.int (fp r a q l).1,.bool (fp r a q l).2])∧0≤(fp r a q l).1∧(fp r a q l).1<r.orders.length:=by
 obtain⟨ha,VJ,hx,_⟩:=La hf;have ym:a.toNat<r.orders.length:=by omega
 obtain⟨aW,kK⟩:=nM _ (cM ym);obtain⟨o,ho⟩:∃o,o=r.orders[a.toNat]:=⟨_,rfl⟩
 rw[←ho] at aW kK;have Md:mO r a=o:=by rw[ho];simp[mO,ym]
 unfold fp;rw[Md];refine⟨?_,?_⟩
 ·refine .of_tree rfl (lA 76 (by kernel_rfl)) aqa ?_;simp[QO];refine⟨_,UI r a q l hl,?_⟩;simp[hf,ym,←ho,ha];refine aH.scan o.choices.length (fun k=>vn q (o.choices.getD k default)=false) (fun k=>[.int 0,.bool false,.int k]) (fun _=>[]) ?_ (fun k hk hj au=>?_) (fun k hk hj au=>?_) (fun hj=>?_)
  ·simp
  ·have hw:=bI hk (by omega);have hn:¬(o.choices[k].ask=q∧¬o.choices[k].by_=0):=by simpa [vn,hk] using au
   simp[Pl,C3,ym,←ho,hk,hw,hn]
  ·have mC:=Bb hk (by simpa [hk] using au) (fun j cC=>by have:=hj j cC;simpa [show j<o.choices.length by omega] using this);rw[mC];have hc:o.choices[k].ask=q∧¬o.choices[k].by_=0:=by simpa [vn,hk] using au
   have hb:=kK _ (cM hk);have Gt:o.choices[k].by_.toNat<l.length:=by omega
   simp[Pl,C3,ym,←ho,hk,hc,ints,Gt];omega
  ·have mC:=F3 (l:=o.choices) (p:=vn q) (fun j cC=>by have:=hj j cC;simpa [cC] using this);rw[mC];simp[Pl,C3,ym,←ho]
 ·cases mC:o.choices.find? (vn q) with
  |none=>exact ha
  |some ch=>
   have hb:=kK _ (tT mC);have Gt:ch.by_.toNat<l.length:=by omega
   simp[Gt];exact hx _ (cM Gt)
theorem OF:∀(N:Nat) (l:List Int),l.Nodup→(∀x,x∈l→0≤x∧x<(N:Int))→l.length≤N
 |0,l,hn,h=>by
  cases l with
  |nil=>simp
  |cons a l=>have:=h a (by simp);omega
 |N+1,l,hn,h=>by
  by_cases hm:(N:Int)∈l
  ·have h1:=OF N (l.erase (N:Int)) (hn.erase _) (fun x hx=>by
    have cT:=(hn.mem_erase_iff).mp hx;have:=h x cT.2;have az:=cT.1;omega)
   rw[List.length_erase_of_mem hm] at h1;omega
  ·have h1:=OF N l hn (fun x hx=>by
    have:=h x hx;have az:x≠(N:Int):=fun e=>hm (e▸hx);omega)
   omega
def cV (l:List Int):Int:=l.getD (l.length-1) 0
def jQ (r:Realm)(q:Int)(l:List Int):Nat→List Int→List Int×Int
 |0,p=>(p,0)
 |n+1,p=>
  if(fp r (cV p) q l).1=cV p then(p,0)
  else if(fp r (cV p) q l).2=false∨(hasB p (fp r (cV p) q l).1=true∧(mO r (fp r (cV p) q l).1).accepts=true) then(p++[(fp r (cV p) q l).1],0)
  else if hasB p (fp r (cV p) q l).1=true then(p++[(fp r (cV p) q l).1],12)
  else jQ r q l n (p++[(fp r (cV p) q l).1])
theorem M6 (r:Realm)(q:Int)(l:List Int)(n:Nat)(p:List Int):jQ r q l (n+1) p=
 if(fp r (cV p) q l).1=cV p then(p,0)
 else if(fp r (cV p) q l).2=false∨(hasB p (fp r (cV p) q l).1=true∧(mO r (fp r (cV p) q l).1).accepts=true) then(p++[(fp r (cV p) q l).1],0)
 else if hasB p (fp r (cV p) q l).1=true then(p++[(fp r (cV p) q l).1],12)
 else jQ r q l n (p++[(fp r (cV p) q l).1]):=rfl
def gX (r:Realm)(a q:Int)(l:List Int):List Int×Int:=if kI r a q l=true∧l.getD 0 0=a then jQ r q l r.orders.length [a] else([],1)
theorem abG (r:Realm)(nM:zX r)(hn:r.orders.length≤100000)(a q:Int)(l:List Int)(hl:l.length≤100000):ak T 129 [bA r,.int a,.int q,ints l] (.tup [ints (gX r a q l).1,.int (gX r a q l).2]):=by
 refine .of_tree rfl (lA 71 (by kernel_rfl)) ap9 ?_;simp[QN];refine⟨_,UI r a q l hl,?_⟩;cases hf:kI r a q l
 ·simp[gX,hf];rfl
 obtain⟨ha,VJ,hx,uL⟩:=La hf;have h0:0<l.length:=by omega
 by_cases uR:l[0]=a
 ·have hE:gX r a q l=jQ r q l r.orders.length [a]:=by unfold gX;rw[if_pos ⟨hf,by simp[h0,uR]⟩]
  rw[hE];simp[h0,uR,ints];refine aH.forLoop (α:=Nat×List Int) (fun s vr vo=>vr=[.list [],.int 0,.none]∧vo=[ints s.2]∧s.2.Nodup∧(∀x,x∈s.2→0≤x∧x<(r.orders.length:Int))∧s.2≠[]∧s.1+s.2.length=r.orders.length+1∧jQ r q l s.1 s.2=jQ r q l r.orders.length [a]) (fun s=>s.1) (r.orders.length,[a]) ?_ ?_
  ·simp[ints];exact ha
  ·rintro⟨n,p⟩ vr vo ⟨rfl,rfl,bm,cv,az,hlen,BP⟩;simp only at*;have eI:p.length≤r.orders.length:=OF _ p bm cv;have G1:0<p.length:=JE.mpr az;obtain⟨m,rfl⟩:∃m,n=m+1:=⟨n-1,by omega⟩
   have af:p.length-1<p.length:=by omega
   have jL:cV p=p[p.length-1]:=by simp[cV,af]
   have uS:=cv _ (cM af);rw[←jL] at uS;obtain⟨Lt,fM,fN⟩:=SQ r nM (cV p) q l hl (uL _ uS.1 uS.2);have L1:((p.length:Int)-1).toNat=p.length-1:=by omega
   have MQ:IntKind.i64.wrap ((p.length:Int)-1)=(p.length:Int)-1:=bG (by omega);rw[←BP,M6];obtain⟨L,hL⟩:∃L,L=fp r (cV p) q l:=⟨_,rfl⟩
   rw[←hL] at Lt fM fN ⊢;obtain⟨to,whole⟩:=L;simp only at Lt fM fN;have vc:to.toNat<r.orders.length:=by omega
   have Md:mO r to=r.orders[to.toNat]:=by simp[mO,vc]
   simp only[Md];simp[an0,Pk,MQ,L1,af,←jL,ints];refine⟨by omega,_,Lt,?_⟩;by_cases h1:to=cV p
   ·simp[h1]
   simp[h1];refine⟨_,tP p to (by omega),by omega,?_⟩;cases whole
   ·simp
   cases h2:hasB p to
   ·have cR:to∉p:=fun hm=>by
     have:hasB p to=true:=by simp[hasB,hm]
     rw[h2] at this;cases this
    simp[h2];refine⟨m,by omega,p++[to],by simp,?_,?_,by simp,by simp;omega,rfl⟩
    ·exact Eh.mpr ⟨bm,by simp,fun x hx y hy=>by simp at hy;subst hy;exact fun e=>cR (e▸hx)⟩
    ·intro x hx;rcases dg.mp hx with h|h
     ·exact cv x h
     ·simp at h;subst h;exact⟨fM,fN⟩
   ·cases h3:r.orders[to.toNat].accepts<;>simp[h2,h3,vc]<;>omega
 ·have hE:gX r a q l=([],1):=by unfold gX;rw[if_neg (by simp[h0,uR])]
  rw[hE];simp[h0,uR];rfl
end Rm
namespace Rm
open Go Go.Proofs Cx
def dS (f:File)(i:Int):Sign:=f.signs.getD i.toNat default
def kq (r:Realm)(forum:Int)(c:Case):List Int:=[forum,fO r (dS c.file c.sign).city,fO r c.file.bill.pay,fO r c.file.bill.city,fO r (r.firms.getD (dS c.file c.sign).who.toNat default).city]
def nz (r:Realm)(forum:Int)(c:Case):Prop:=(dS c.file c.sign).who<0∨(r.firms.length:Int)≤(dS c.file c.sign).who∨forum<0∨(r.orders.length:Int)≤forum
instance (r:Realm) (forum:Int) (c:Case):Decidable (nz r forum c):=by unfold nz;infer_instance
def gK (r:Realm)(forum:Int)(c:Case):List Int:=if nz r forum c then[] else if hasB (kq r forum c) (-1)=true then[] else kq r forum c
@[simp] theorem avk (r:Realm)(x:Int):wS (bA r) x=fO r x:=by
  unfold wS fO aC;by_cases h:0≤x∧x<(r.cities.length:Int)
  ·have hx:x.toNat<r.cities.length:=by omega
   rw[if_pos (by simpa using h),if_pos (by simpa using h)];simp[hx]
  ·rw[if_neg (by simpa using h),if_neg (by simpa using h)]
theorem Zu (r:Realm)(forum:Int)(c:Case)(h1:c.sign.toNat<c.file.signs.length):OG [bA r,.int forum,eT c]=ints (gK r forum c):=by
 have hs:dS c.file c.sign=c.file.signs[c.sign.toNat]:=by simp[dS,h1]
 unfold OG gK;simp[h1];by_cases hb:nz r forum c
 ·rw[if_pos (by simpa [nz,hs] using hb),if_pos hb];rfl
 ·rw[if_neg (by simpa [nz,hs] using hb),if_neg hb];have G8:(dS c.file c.sign).who.toNat<r.firms.length:=by unfold nz at hb;omega
  have Wo:c.file.signs[c.sign.toNat].who.toNat<r.firms.length:=by rw[←hs];exact G8
  have ji:kq r forum c=[forum,fO r c.file.signs[c.sign.toNat].city,fO r c.file.bill.pay,fO r c.file.bill.city,fO r r.firms[c.file.signs[c.sign.toNat].who.toNat].city]:=by
   simp[kq,hs,Wo]
  have cQ:∀l:List Int,hasB l (-1)=true↔-1∈l:=fun l=>by simp[hasB]
  rw[ji];simp[Wo];split
  ·rename_i h;rw[if_pos ((cQ _).mpr (by simpa using h))];rfl
  ·rename_i h;rw[if_neg (fun h'=>h (by simpa using(cQ _).mp h'))]
theorem anv (r:Realm)(forum:Int)(c:Case)(h1:0≤c.sign∧c.sign<c.file.signs.length):ak T 128 [bA r,.int forum,eT c] (ints (gK r forum c)):=by
 have cP:c.sign.toNat<c.file.signs.length:=by omega
 rw[←Zu r forum c cP];have hs:dS c.file c.sign=c.file.signs[c.sign.toNat]:=by simp[dS,cP]
 refine ak.of_nsl rfl apQ apR ?_;rw[Zu r forum c cP];by_cases hb:nz r forum c
 ·refine .inr ⟨by simp[gK,hb];rfl,?_⟩;have eh:=hb;simp[nz,hs] at eh;simp[Ji,h1,cP]
  intros;omega
 have pk:gK r forum c=if hasB (kq r forum c) (-1)=true then[] else kq r forum c:=by unfold gK;rw[if_neg hb]
 have eh:=hb;simp[nz,hs] at eh;have hw:c.file.signs[c.sign.toNat].who.toNat<r.firms.length:=by omega
 have hC:=tP (kq r forum c) (-1) (by simp[kq]);cases hh:hasB (kq r forum c) (-1)<;>rw[hh] at hC<;>simp[kq,ints,hs,hw] at hC
 ·refine .inl ⟨(kq r forum c).map .int,by simp[kq],by rw[pk,hh];rfl,?_⟩;simp[Qw,h1,cP,hw];rw[if_neg (by omega)];refine⟨_,ox r _,_,ox r _,_,ox r _,by omega,_,ox r _,_,by simpa using hC,?_⟩;simp[kq,hs,hw]
 ·refine .inr ⟨by rw[pk,hh];rfl,?_⟩;simp[Ji,h1,cP,hw]
  intros
  refine⟨_,ox r _,_,ox r _,_,ox r _,by omega,_,ox r _,_,by simpa using hC,?_⟩;simp
end Rm
namespace Rm
open Go Go.Proofs Cx
structure Right (r:Realm):Prop where
 by_:zX r
 len:r.orders.length≤100000
 ok:∀o,o∈r.orders→o.OK∧o.rules.length≤100000
structure FewS (f:File):Prop where
 signs:f.signs.length≤1000
 alters:f.alters.length≤1000
 acts:f.acts.length≤1000
 facts:f.facts.length≤1000
theorem abg {α:Type}(p:α→Bool)(l:List α):(l.takeWhile p).length≤l.length:=by
 obtain⟨m,h1,h2,_⟩:=Js p l;rw[h2,gd];omega
theorem FewS.at_ {f:File}(h:FewS f)(day:Int):FewS (cO f day):=
 ⟨gy (abg _ _) h.1,gy (qh _ _) h.2,gy (abg _ _) h.3,gy (qh _ _) h.4⟩
def ej (c:Case):Case:={c with file:=cO c.file c.day}
@[simp] theorem avb (x:File)(a0 a1 a2 a3 a4 a5 a6 a7 a8 a9 nr ns a12 nu nv qo qp qq qs:D)(s h d u y:Int):iw 24 (D.agg (cr [a0,a1,a2,a3,a4,a5,a6,a7,a8,a9,nr,ns,a12,nu,nv,qo,qp,qq,qs,.int s,.int h,.int d,.int u,.int y] 0 [.int x.bill.drawer,.int x.bill.drawee,.int x.bill.payee,.int x.bill.sum,.int x.bill.currency,.int x.bill.tenor.kind,.int x.bill.tenor.n,.int x.bill.tenor.unit,.int x.bill.day,.int x.bill.city,.int x.bill.pay,.int x.bill.need,.int x.bill.rate,.int x.bill.flags,.int x.bill.parts,signs x.signs,alters x.alters,acts x.acts,facts x.facts]))=eT ⟨x,s,h,d,u,y⟩:=_root_.id rfl
theorem acp (r:Realm)(c:Case)(hf:FewS c.file):ak T 126 [bA r,eT c] (.tup [eT (ej c),cells (fh r (ej c))]):=by
 refine .of_tree rfl (lA 62 (by kernel_rfl)) apP ?_;simp[Qv];have h1:=hf.1;have h2:=hf.2;have h3:=hf.3;have h4:=hf.4;refine⟨_,P0 c.file c.day (by omega) (by omega) (by omega) (by omega),?_⟩;have uP:=hf.at_ c.day;have h5:=uP.4;have h6:=uP.2;simp;exact⟨aou r (ej c) (by show(cO c.file c.day).facts.length≤_;omega) (by show(cO c.file c.day).alters.length≤_;omega),(congrArg (iw 24) (anb (ej c) _ _ _ _ _ _ _ _ _ _ _ _ _ _ _ _ _ _ _ _ _ _ _ _)).trans (ab8 (ej c))⟩
theorem ar5 {r:Realm}{c:Case}(h:fh r c≠[]):0≤c.sign∧c.sign<c.file.signs.length:=by
 unfold fh at h;split at h
 ·rename_i hh;have h1:=hh.1;unfold kF at h1;simp[aC] at h1;omega
 ·exact absurd rfl h
theorem WS (r:Realm)(nM:zX r)(q:Int)(l:List Int)(hl:l.length≤100000)(uL:∀b:Int,0≤b→b<r.orders.length→kI r b q l=true):∀(n:Nat) (p:List Int),p≠[]→(∀x,x∈p→0≤x∧x<(r.orders.length:Int))→
 (jQ r q l n p).1≠[]∧∀x,x∈(jQ r q l n p).1→0≤x∧x<(r.orders.length:Int)
 |0,p,az,hp=>⟨az,hp⟩
 |n+1,p,az,hp=>by
  have af:p.length-1<p.length:=by have:=JE.mpr az;omega
  have jL:cV p=p[p.length-1]:=by simp[cV,af]
  have uS:=hp _ (cM af);rw[←jL] at uS;obtain⟨_,ht⟩:=SQ r nM (cV p) q l hl (uL _ uS.1 uS.2)
  have aS:∀x,x∈p++[(fp r (cV p) q l).1]→0≤x∧x<(r.orders.length:Int):=fun x hx=>by
   rcases dg.mp hx with h|h
   ·exact hp x h
   ·simp at h;subst h;exact ht
  rw[M6];split
  ·exact⟨az,hp⟩
  split
  ·exact⟨by simp,aS⟩
  split
  ·exact⟨by simp,aS⟩
  ·exact WS r nM q l hl uL n _ (by simp) aS
theorem WR {r:Realm}(hr:Right r){a q:Int}{l:List Int}(hl:l.length≤100000)(h:(gX r a q l).2=0):(gX r a q l).1≠[]∧0≤cV (gX r a q l).1∧cV (gX r a q l).1<r.orders.length:=by
 unfold gX at h ⊢;split at h
 ·rename_i hh;rw[if_pos hh];obtain⟨ha,VJ,hx,uL⟩:=La hh.1;obtain⟨h1,h2⟩:=WS r hr.by_ q l hl uL r.orders.length [a] (by simp) (fun x hx=>by simp at hx;subst hx;exact ha);refine⟨h1,?_⟩;have af:(jQ r q l r.orders.length [a]).1.length-1<(jQ r q l r.orders.length [a]).1.length:=by have:=JE.mpr h1;omega
  have jL:cV (jQ r q l r.orders.length [a]).1=(jQ r q l r.orders.length [a]).1[(jQ r q l r.orders.length [a]).1.length-1]:=by simp[cV,af]
  rw[jL];exact h2 _ (cM af)
 ·cases h
theorem WT (r:Realm)(q:Int)(l:List Int):∀(n:Nat) (p:List Int),(jQ r q l n p).1.length≤p.length+n
 |0,p=>by simp[jQ]
 |n+1,p=>by
  rw[M6];split
  ·simp
  split
  ·simp
  split
  ·simp
  ·have:=WT r q l n (p++[(fp r (cV p) q l).1]);simp at this;omega
theorem aj1 (r:Realm)(a q:Int)(l:List Int):(gX r a q l).1.length≤1+r.orders.length:=by
 unfold gX;split
 ·exact WT r q l _ [a]
 ·simp
@[simp] theorem ayR (a b c d e x:D):cr [a,b,c,d,e] 2 [x]=[a,b,x,d,e]:=_root_.id rfl
@[simp] theorem ayS (a b c d e x:D):cr [a,b,c,d,e] 3 [x]=[a,b,c,x,e]:=_root_.id rfl
@[simp] theorem ayT (a b c d e x:D):cr [a,b,c,d,e] 4 [x]=[a,b,c,d,x]:=_root_.id rfl
def NB:Said:=⟨dH,-1,[],1⟩
def fB (r:Realm)(forum q:Int)(c:Case):Said×List Cell:=
 if fh r (ej c)=[] then(NB,[]) else if(oC q).2=false then(NB,[]) else if gK r forum (ej c)=[] then(NB,[]) else
    (⟨dH,if(gX r forum q (gK r forum (ej c))).2=0 then cV (gX r forum q (gK r forum (ej c))).1 else-1,(gX r forum q (gK r forum (ej c))).1,(gX r forum q (gK r forum (ej c))).2⟩,fh r (ej c))
theorem Zv (r:Realm)(forum:Int)(c:Case):(gK r forum c).length≤5:=by
 unfold gK;split
 ·simp
 split<;>simp[kq]
theorem acn (r:Realm)(hr:Right r)(forum q:Int)(c:Case)(hf:FewS c.file):ak T 84 [bA r,.int forum,.int q,eT c] (.tup [nI (fB r forum q c).1,cells (fB r forum q c).2]):=by
 refine .of_tree rfl (lA 61 (by kernel_rfl)) apO ?_;simp[Qu];refine⟨_,acp r c hf,?_⟩;by_cases hv:fh r (ej c)=[]
 ·simp[hv,fB];exact⟨rfl,rfl⟩
 simp[hv,fB];refine⟨_,Oz q,?_⟩;cases hq:(oC q).2
 ·simp[hq];exact⟨rfl,rfl⟩
 simp[hq];refine⟨_,anv r forum (ej c) (ar5 hv),?_⟩;by_cases hp:gK r forum (ej c)=[]
 ·simp[hp];exact⟨rfl,rfl⟩
 have eI:=Zv r forum (ej c);have az:ints (gK r forum (ej c))≠.list []:=fun e=>hp (by simpa [ints] using e);simp[hp];generalize gK r forum (ej c)=l at*;refine⟨_,abG r hr.by_ hr.len forum q l (by omega),?_⟩;have hlen:=aj1 r forum q l;have BP:=WR hr (a:=forum) (q:=q) (l:=l) (by omega);have Mh:=hr.len;generalize gX r forum q l=L at*;obtain⟨path,err⟩:=L;simp only at*;by_cases he:err=0
 ·obtain⟨h1,h2⟩:=BP he;have G1:=JE.mpr h1;have MQ:IntKind.i64.wrap ((path.length:Int)-1)=(path.length:Int)-1:=bG (by omega);have L1:((path.length:Int)-1).toNat=path.length-1:=by omega
  have af:path.length-1<path.length:=by omega
  have jL:cV path=path[path.length-1]:=by simp[cV,af]
  simp[he,MQ,L1,af,←jL];exact⟨by omega,rfl⟩
 ·simp[he];rfl
def oQ (r:Realm)(forum q:Int)(c:Case):Said:=
 if(fB r forum q c).1.order=-1 then(fB r forum q c).1
 else⟨(ny (mO r (fB r forum q c).1.order) q (fB r forum q c).2).1,(fB r forum q c).1.order,(fB r forum q c).1.path,(ny (mO r (fB r forum q c).1.order) q (fB r forum q c).2).2⟩
theorem ack {r:Realm}(hr:Right r)(forum q:Int)(c:Case):(fB r forum q c).1.order=-1∨(0≤(fB r forum q c).1.order∧(fB r forum q c).1.order<r.orders.length):=by
 unfold fB;split
 ·exact .inl rfl
 split
 ·exact .inl rfl
 split
 ·exact .inl rfl
 ·have eI:=Zv r forum (ej c);have BP:=WR hr (a:=forum) (q:=q) (l:=gK r forum (ej c)) (by omega);show(if _ then _ else _)=_∨_;split
  ·rename_i h;exact .inr (BP h).2
  ·exact .inl rfl
theorem Tq (r:Realm)(hr:Right r)(forum q:Int)(c:Case)(hf:FewS c.file):ak T 33 [bA r,.int forum,.int q,eT c] (nI (oQ r forum q c)):=by
 refine .of_tree rfl (lA 60 (by kernel_rfl)) apJ ?_;simp[Qp];refine⟨_,acn r hr forum q c hf,?_⟩;have ho:=ack hr forum q c;unfold oQ;generalize fB r forum q c=S at*;obtain⟨s,cs⟩:=S;simp only at*;by_cases h:s.order=-1
 ·obtain⟨⟨kn,n⟩,o,pth,e⟩:=s;simp only at h;subst h;simp;rfl
 ·have h1:0≤s.order∧s.order<r.orders.length:=by omega
  have h2:s.order.toNat<r.orders.length:=by omega
  have h3:mO r s.order=r.orders[s.order.toNat]:=by simp[mO,h2]
  obtain⟨au,hlen⟩:=hr.ok _ (cM h2);simp[h,h1,h2,h3];refine⟨_,am6 _ q cs au (by omega),?_⟩;simp;rfl
def mu (r:Realm)(forum q:Int)(f:File)(day:Int):Said:=oQ r forum q ⟨{f with facts:=[]},0,-1,-1,-1,day⟩
theorem Tr (r:Realm)(hr:Right r)(forum q:Int)(f:File)(day:Int)(hf:FewS f):ak T 81 [bA r,.int forum,.int q,cB f,.int day] (nI (mu r forum q f day)):=by
 refine .of_tree rfl (lA 59 (by kernel_rfl)) apK ?_;simp[Qq];refine⟨nI (mu r forum q f day),Tq r hr forum q ⟨{f with facts:=[]},0,-1,-1,-1,day⟩ ⟨hf.1,hf.2,hf.3,by simp⟩,?_⟩;simp
 try rfl
def m5 (s:Said):Int:=if s.err≠0 then 0 else if s.cell.known=false then 2 else if s.cell.n≠0 then 1 else 0
theorem Ts (s:Said):ak T 35 [nI s] (.int (m5 s)):=by
 refine .of_tree rfl (lA 97 (by kernel_rfl)) apN ?_;unfold m5;by_cases h1:s.err=0<;>cases h2:s.cell.known<;>by_cases h3:s.cell.n=0<;>simp[Qt,h1,h2,h3]
def sY (s:Said):Int:=if s.err≠0∨s.cell.known=false then-1 else s.cell.n
theorem acm (s:Said):ak T 32 [nI s] (.int (sY s)):=by
 refine .of_tree rfl (lA 99 (by kernel_rfl)) apM ?_;unfold sY;by_cases h1:s.err=0<;>cases h2:s.cell.known<;>simp[Qs,h1,h2]
end Rm
namespace Rm
open Go Go.Proofs Cx
def j0 (day:Int)(l:List Act)(es:List (D×D)):List (D×D):=l.foldl (fun es a=>if a.kind=7∧a.day≤day then eu (.int a.at_) (.bool true) es else es) es
theorem apk (day:Int)(l:List Act){k:Nat}(hk:k<l.length):j0 day (l.take (k+1)) []=if l[k].kind=7∧l[k].day≤day then eu (.int l[k].at_) (.bool true) (j0 day (l.take k) []) else j0 day (l.take k) []:=by
 unfold j0;rw[gx hk,wM];rfl
theorem Zy (k v:D):∀es:List (D×D),(eu k v es).length≤es.length+1
 |[]=>by simp[eu]
 |e::es=>by
  unfold eu;split
  ·simp
  ·have:=Zy k v es;simp;omega
theorem aa3 (day:Int):∀(l:List Act) (es:List (D×D)),(j0 day l es).length≤es.length+l.length
 |[],es=>by simp[j0]
 |a::l,es=>by
  have h:=aa3 day l (if a.kind=7∧a.day≤day then eu (.int a.at_) (.bool true) es else es);have hp:=Zy (.int a.at_) (.bool true) es;show(j0 day l (if a.kind=7∧a.day≤day then eu (.int a.at_) (.bool true) es else es)).length≤_;split at h
  ·rename_i hc;rw[if_pos hc];simp;omega
  ·rename_i hc;rw[if_neg hc];simp;omega
theorem apG (f:File)(day:Int)(hl:f.acts.length≤100000):ak T 176 [cB f,.int day] (.map (j0 day f.acts [])):=by
 refine .of_tree rfl (lA 121 (by kernel_rfl)) arK ?_;simp[Sb];refine aH.forRounds f.acts.length (fun k=>[.int k]) (fun k=>[.map (j0 day (f.acts.take k) [])]) ?_ (fun k hk=>?_) ?_
 ·simp[j0]
 ·have hw:=bI hk (by omega);have hs:=apk day f.acts hk;have hlen:=aa3 day (f.acts.take k) [];rw[hs];simp at hlen;generalize j0 day (f.acts.take k) []=es at*;by_cases hc:f.acts[k].kind=7∧f.acts[k].day≤day
  ·simp[PX,DC,hk,hw,hc];omega
  ·simp[PX,DC,hk,hw,hc]
 ·simp[PX,DC]
theorem Zz {k v:D}:∀{es:List (D×D)} {e:D×D},e∈eu k v es→e.2=v∨e∈es
 |[],e,h=>by simp[eu] at h;exact .inl (by rw[h])
 |x::es,e,h=>by
  unfold eu at h;split at h
  ·rcases cG.mp h with rfl|h
   ·exact .inl rfl
   ·exact .inr (by simp[h])
  ·rcases cG.mp h with rfl|h
   ·exact .inr (by simp)
   ·rcases Zz h with h|h
    ·exact .inl h
    ·exact .inr (by simp[h])
theorem aa4 (day:Int):∀(l:List Act) (es:List (D×D)),(∀e,e∈es→e.2=.bool true)→∀e,e∈j0 day l es→e.2=.bool true
 |[],es,h,e,he=>h e he
 |a::l,es,h,e,he=>by
  refine aa4 day l (if a.kind=7∧a.day≤day then eu (.int a.at_) (.bool true) es else es) (fun x hx=>?_) e he;split at hx
  ·rcases Zz hx with h'|h'
   ·exact h'
   ·exact h x h'
  ·exact h x hx
theorem WZ {k d:D}:∀{es:List (D×D)},gq k es=some d→∃e,e∈es∧e.2=d
 |x::es,h=>by
  unfold gq at h;split at h
  ·exact⟨x,by simp,by simpa using h⟩
  ·obtain⟨e,h1,h2⟩:=WZ h;exact⟨e,by simp[h1],h2⟩
theorem apj (day:Int)(l:List Act)(k:D):(gq k (j0 day l [])).getD (.bool false)=.bool ((gq k (j0 day l [])).getD (.bool false)).b:=by
 cases h:gq k (j0 day l []) with
 |none=>rfl
 |some d=>
  obtain⟨e,h1,h2⟩:=WZ h;have:=aa4 day l [] (fun e h=>by cases h) e h1;rw[h2] at this;rw[this];rfl
def wx (f:File)(sign day:Int):Bool:=aC sign f.signs.length&&((gq (.int sign) (j0 day f.acts [])).getD (.bool false)).b
theorem apF (f:File)(sign day:Int)(hl:f.acts.length≤100000):ak T 113 [cB f,.int sign,.int day] (.bool (wx f sign day)):=by
 refine .of_tree rfl (lA 120 (by kernel_rfl)) arJ ?_;by_cases h1:0≤sign<;>by_cases h2:sign<f.signs.length<;>simp[Sa,h1,h2,wx,aC];refine⟨_,apG f day hl,?_⟩;exact apj day f.acts (.int sign)
def lg (f:File)(sign:Int)(n:Nat):Int:=(f.alters.take n).foldl (fun s a=>if a.at_≤sign then a.sum else s) f.bill.sum
theorem ank (f:File)(sign:Int)(hl:f.alters.length≤100000):ak T 177 [cB f,.int sign] (.int (lg f sign f.alters.length)):=by
 refine .of_tree rfl (lA 125 (by kernel_rfl)) aqv ?_;simp[Q4];refine aH.forRounds f.alters.length (fun k=>[.int (lg f sign k),.int k]) (fun k=>[]) ?_ (fun k hk=>?_) ?_
 ·simp[lg]
 ·have hw:=bI hk (by omega);have hs:lg f sign (k+1)=if f.alters[k].at_≤sign then f.alters[k].sum else lg f sign k:=by
   unfold lg;rw[gx hk,wM];rfl
  rw[hs];generalize lg f sign k=s at*;by_cases hc:f.alters[k].at_≤sign<;>simp[aaj,Iz,hk,hw,hc]
 ·simp[aaj,Iz]
end Rm
namespace Rm
open Go Go.Proofs Cx
theorem Wy (r:Realm)(c:Int):ak T 120 [bA r,.int c] (.bool (aC c r.cities.length)):=by
 refine .of_tree rfl (lA 103 (by kernel_rfl)) arq ?_;by_cases h1:0≤c<;>by_cases h2:c<r.cities.length<;>simp[RU,h1,h2,aC]
def iy (n:Int):Bool:=decide (0≤n)&&decide (n≤100000)
theorem MY (n:Int):ak T 121 [.int n] (.bool (iy n)):=by
 refine .of_tree rfl (lA 104 (by kernel_rfl)) ars ?_;by_cases h1:0≤n<;>by_cases h2:n≤100000<;>simp[RV,h1,h2,iy]
theorem D3 (n:Int):ak T 215 [.int n] (.bool (iy n)):=by
 refine .of_tree rfl (lA 109 (by kernel_rfl)) ap5 ?_;by_cases h1:0≤n<;>by_cases h2:n≤100000<;>simp[QJ,h1,h2,iy]
def aaW (t:Tenor):Bool:=decide (t.kind=0)||decide (t.kind=1)
theorem Td (t:Tenor):ak T 122 [qH t] (.bool (aaW t)):=by
 refine .of_tree rfl (lA 105 (by kernel_rfl)) arp ?_;by_cases h1:t.kind=0<;>simp[RT,h1,aaW]
theorem XJ (y m d:Int):∃n:Int,ak T 268 [.int y,.int m,.int d] (.int n):=by
 by_cases h:m<3
 ·refine⟨?w,?h⟩
  case h=>
   refine ak.of_tree (d:=.int ?w) rfl Tv abb ?_;simp[Jm,h];exact rfl
 ·refine⟨?v,?g⟩
  case g=>
   refine ak.of_tree (d:=.int ?v) rfl Tv abb ?_;simp[Jm,h];exact rfl
def CD (y m d:Int):Int:=(XJ y m d).choose
theorem Hy (y m d:Int):ak T 268 [.int y,.int m,.int d] (.int (CD y m d)):=(XJ y m d).choose_spec
def yR (y m:Int):Int:=if m=12 then 31 else IntKind.i64.wrap (CD y (IntKind.i64.wrap (m+1)) 1-CD y m 1)
theorem Hg (y m:Int):ak T 243 [.int y,.int m] (.int (yR y m)):=by
 refine .of_tree rfl (lA 111 (by kernel_rfl)) ap3 ?_;unfold yR;by_cases h:m=12
 ·simp[Jl,h]
 ·simp[Jl,h];refine⟨_,Hy _ _ _,_,Hy _ _ _,?_⟩;simp
theorem abu (y m d:Int):∃n e:Int,ak T 242 [.int y,.int m,.int d] (.tup [.int n,.int e])∧(e=0→0≤n∧n≤100000):=by
 by_cases h0:(((2000≤y∧y≤2300)∧1≤m)∧m≤12)∧1≤d
 ·by_cases h2:d≤yR y m
  ·cases h1:iy (CD y m d)
   ·refine⟨0,3,.of_tree rfl Ew Jk ?_,by simp⟩;simp[zL];rw[if_pos h0];refine⟨_,Hg y m,?_⟩;simp[h0,h2];refine⟨_,Hy _ _ _,_,D3 _,?_⟩;simp[h1]
   ·refine⟨CD y m d,0,.of_tree rfl Ew Jk ?_,fun _=>by simpa [iy] using h1⟩;simp[zL];rw[if_pos h0];exact⟨_,Hg y m,⟨h0,h2⟩,_,Hy _ _ _,_,D3 _,h1,rfl⟩
  ·refine⟨0,3,.of_tree rfl Ew Jk ?_,by simp⟩;simp[zL];rw[if_pos h0];refine⟨_,Hg y m,?_⟩;simp[h0,h2]
 ·refine⟨0,3,.of_tree rfl Ew Jk ?_,by simp⟩;simp[zL];rw[if_neg h0];intro a1 a2 a3 a4 a5;exact absurd ⟨⟨⟨⟨a1,a2⟩,a3⟩,a4⟩,a5⟩ h0
theorem Tg (r:Realm)(fr to:Int)(hl:r.usances.length≤100000):∃n e:Int,ak T 106 [bA r,.int fr,.int to] (.tup [.int n,.int e])∧(e=0→∃u,u∈r.usances∧n=u.days)∧(e=0↔∃u,u∈r.usances∧u.fr=fr∧u.to=to):=by
 let p:Usance→Bool:=fun u=>decide (u.fr=fr)&&decide (u.to=to)
 refine⟨match r.usances.find? p with|some u=>u.days|none=>0,match r.usances.find? p with|some u=>0|none=>4,?_,?_⟩
 ·refine .of_tree rfl (lA 40 (by kernel_rfl)) aqS ?_;simp[Rp];refine aH.scan r.usances.length (fun k=>p (r.usances.getD k default)=false) (fun k=>[.int 0,.int 0,.int k]) (fun _=>[]) ?_ (fun k hk hj au=>?_) (fun k hk hj au=>?_) (fun hj=>?_)
  ·simp
  ·have hw:=bI hk (by omega);have hn:¬(r.usances[k].fr=fr∧r.usances[k].to=to):=by simpa [p,hk] using au
   simp[Pt,De,hk,hw,hn]
  ·have mC:=Bb hk (by simpa [hk] using au) (fun j cC=>by have:=hj j cC;simpa [show j<r.usances.length by omega] using this);have hc:r.usances[k].fr=fr∧r.usances[k].to=to:=by simpa [p,hk] using au
   rw[mC];simp[Pt,De,hk,hc]
  ·have mC:=F3 (l:=r.usances) (p:=p) (fun j cC=>by have:=hj j cC;simpa [cC] using this);rw[mC];simp[Pt,De]
 ·cases h:r.usances.find? p with
  |none=>
   refine⟨fun h=>(by cases h),fun h=>(by cases h),fun⟨u,hu,h1,h2⟩=>?_⟩;have:=tR.1 h u hu;simp[p,h1,h2] at this
  |some u=>
   have h2:u.fr=fr∧u.to=to:=by simpa [p] using z7 h
   exact⟨fun _=>⟨u,tT h,rfl⟩,fun _=>⟨u,tT h,h2⟩,fun _=>rfl⟩
theorem abQ (r:Realm)(fr to:Int)(hl:r.usances.length≤100000):∃n e:Int,ak T 106 [bA r,.int fr,.int to] (.tup [.int n,.int e])∧(e=0→∃u,u∈r.usances∧n=u.days):=by
 obtain⟨n,e,h1,h2,_⟩:=Tg r fr to hl;exact⟨n,e,h1,h2⟩
end Rm
namespace Rm
open Go Go.Proofs Cx
theorem T4 (R Y:Int)(hR:0≤R∧R<146097)(h1:365*Y≤R-R/1460+R/36524-R/146096)(h2:R-R/1460+R/36524-R/146096<365*Y+365):0≤R-(365*Y+Y/4-Y/100)∧R-(365*Y+Y/4-Y/100)≤500:=by
 have k0:R/36524≤R/1460:=by omega
 have k1:Y/4≤R/1460:=by omega
 have hY:0≤Y:=by omega
 have hc:R/36524=0∨R/36524=1∨R/36524=2∨R/36524=3∨R/36524=4:=by omega
 have k2:25*(R/36524)≤R/1460:=by omega
 refine⟨?_,?_⟩
 ·rcases Int.lt_or_le Y (100*(R/36524)) with hy|hy
  ·have k3:Y/4≤25*(R/36524)-1:=by omega
   have k4:R/36524-1≤Y/100:=by omega
   omega
  ·have k3:R/36524≤Y/100:=by omega
   omega
 ·omega
theorem T5 (n:Int)(h:0≤n∧n≤100400):ak T 241 [.int n] (.tup [.int (eD n).1,.int (eD n).2.1,.int (eD n).2.2]):=by
 refine .of_tree rfl (lA 110 (by kernel_rfl)) ap0 ?_;have w:∀x:Int,-1000000000≤x→x≤1000000000→IntKind.i64.wrap x=x:=fun x a b=>bG (by omega);have t:∀x y:Int,0≤x→x.tdiv y=x/y:=fun x y hx=>Int.tdiv_eq_ediv_of_nonneg hx;have u:∀x y:Int,0≤x→x.tmod y=x%y:=fun x y hx=>SO hx;simp[QF];unfold eD;simp only[];rw[w (n+730425) (by omega) (by omega),u (n+730425) 146097 (by omega),t (n+730425) 146097 (by omega)];have hR:0≤(n+730425)%146097∧(n+730425)%146097<146097:=by omega
 have hE:0≤(n+730425)/146097∧(n+730425)/146097<100:=by omega
 generalize (n+730425)%146097=R at*;generalize (n+730425)/146097=e at*;rw[t R 1460 (by omega),t R 36524 (by omega),t R 146096 (by omega),w (R/1460) (by omega) (by omega),w (R-R/1460) (by omega) (by omega),w (R/36524) (by omega) (by omega),w (R-R/1460+R/36524) (by omega) (by omega),w (R/146096) (by omega) (by omega),w (R-R/1460+R/36524-R/146096) (by omega) (by omega),t (R-R/1460+R/36524-R/146096) 365 (by omega)];have hY:0≤(R-R/1460+R/36524-R/146096)/365∧(R-R/1460+R/36524-R/146096)/365<400:=by omega
 have hD:0≤R-(365*((R-R/1460+R/36524-R/146096)/365)+(R-R/1460+R/36524-R/146096)/365/4-(R-R/1460+R/36524-R/146096)/365/100)∧R-(365*((R-R/1460+R/36524-R/146096)/365)+(R-R/1460+R/36524-R/146096)/365/4-(R-R/1460+R/36524-R/146096)/365/100)≤500:=by
  exact T4 R _ hR (by omega) (by omega)
 generalize (R-R/1460+R/36524-R/146096)/365=Y at*;rw[w Y (by omega) (by omega),w (365*Y) (by omega) (by omega),t Y 4 (by omega),t Y 100 (by omega),w (Y/4) (by omega) (by omega),w (Y/100) (by omega) (by omega),w (365*Y+Y/4) (by omega) (by omega),w (365*Y+Y/4-Y/100) (by omega) (by omega),w (R-(365*Y+Y/4-Y/100)) (by omega) (by omega)];generalize R-(365*Y+Y/4-Y/100)=D at*;rw[w (5*D) (by omega) (by omega),w (5*D+2) (by omega) (by omega),t (5*D+2) 153 (by omega)];have hM:0≤(5*D+2)/153∧(5*D+2)/153≤20:=by omega
 generalize (5*D+2)/153=M at*;rw[w M (by omega) (by omega),w (M+3) (by omega) (by omega),w (M+3-12) (by omega) (by omega),w e (by omega) (by omega),w (400*e) (by omega) (by omega),w (Y+400*e) (by omega) (by omega),w (Y+400*e+1) (by omega) (by omega)];rw[w (153*M) (by omega) (by omega),w (153*M+2) (by omega) (by omega),t (153*M+2) 5 (by omega),w ((153*M+2)/5) (by omega) (by omega),w (D-(153*M+2)/5) (by omega) (by omega),w (D-(153*M+2)/5+1) (by omega) (by omega)];refine⟨?_,?_,rfl⟩
 ·generalize (if 12<M+3 then M+3-12 else M+3)=m;split<;>rfl
 ·split<;>rfl
theorem abo (d n:Int):∃x e:Int,ak T 214 [.int d,.int n] (.tup [.int x,.int e])∧(e=0→0≤x∧x≤100000):=by
 by_cases h0:iy d=true∧-5000≤n∧n≤5000
 ·have hd:0≤d∧d≤100400:=by have:=h0.1;simp[iy] at this;omega
  obtain⟨A,hA⟩:∃A,A=IntKind.i64.wrap (IntKind.i64.wrap (IntKind.i64.wrap (IntKind.i64.wrap (12*(eD d).1)+(eD d).2.1)-1)+n):=⟨_,rfl⟩
  obtain⟨Y,hY⟩:∃Y,Y=IntKind.i64.wrap (A.tdiv 12):=⟨_,rfl⟩
  obtain⟨M,hM⟩:∃M,M=IntKind.i64.wrap (A.tmod 12+1):=⟨_,rfl⟩
  obtain⟨x,e,hD,hb⟩:=abu Y M (if yR Y M<(eD d).2.2 then yR Y M else(eD d).2.2);refine⟨x,e,.of_tree rfl Tu aba ?_,hb⟩;have n1:¬n< -5000:=by omega
  have n2:¬5000<n:=by omega
  simp[Jj,n1,n2];refine⟨_,D3 d,?_⟩;simp[h0.1];refine⟨_,T5 d hd,?_⟩;simp[←hA,←hY,←hM];refine⟨_,Hg Y M,?_⟩;by_cases hl:yR Y M<(eD d).2.2
  ·simp only[if_pos hl] at hD;simp[hl];refine⟨_,hD,?_⟩;simp
  ·simp only[if_neg hl] at hD;simp[hl];refine⟨_,hD,?_⟩;simp
 ·refine⟨0,3,.of_tree rfl Tu aba ?_,by simp⟩;simp[Jj];refine⟨_,D3 d,?_⟩;simp;intro a b c;exact absurd ⟨a,b,c⟩ h0
end Rm
namespace Rm
open Go Go.Proofs Cx
theorem Ly (l:List Int)(x:Int):hasB l x=l.contains x:=by
 rw[wF];simp[hasB]
def DS (c:City):Prop:=c.rest.length≤100000∧c.feasts.length≤100000∧c.shut.length≤100000
theorem adu (n:Int)(h:0≤n∧n≤100400):(0≤(eD n).2.1∧(eD n).2.1≤30)∧-1000≤(eD n).2.2∧(eD n).2.2≤1000:=by
 unfold eD;simp only[];have hR:0≤(n+730425)%146097∧(n+730425)%146097<146097:=by omega
 generalize (n+730425)%146097=R at*;have hD:=T4 R ((R-R/1460+R/36524-R/146096)/365) hR (by omega) (by omega);generalize (R-R/1460+R/36524-R/146096)/365=Y at*;generalize R-(365*Y+Y/4-Y/100)=D at*;have hM:0≤(5*D+2)/153∧(5*D+2)/153≤20:=by omega
 generalize (5*D+2)/153=M at*;refine⟨?_,by omega,by omega⟩;split<;>omega
theorem am2 (c:City)(hc:DS c)(n:Int)(h:0≤n∧n≤100400):ak T 245 [gh c,.int n] (.bool (vG c.rest c.feasts c.shut n)):=by
 refine .of_tree rfl (lA 118 (by kernel_rfl)) ap4 ?_;simp[QI];refine⟨_,T5 n h,?_⟩;have w5:IntKind.i64.wrap (n+5)=n+5:=bG (by omega);have m7:(n+5).tmod 7=(n+5)%7:=SO (by omega);obtain⟨h1,h2,h3⟩:=hc;simp[w5,m7];refine⟨_,tP c.rest ((n+5)%7) (by omega),?_⟩;unfold vG;rw[←Ly];cases hr:hasB c.rest ((n+5)%7)
 ·obtain⟨iJ,fm⟩:=adu n h;have wm:IntKind.i64.wrap (100*(eD n).2.1)=100*(eD n).2.1:=bG (by omega);have wd:IntKind.i64.wrap (100*(eD n).2.1+(eD n).2.2)=100*(eD n).2.1+(eD n).2.2:=bG (by omega);simp[hr,wm,wd];refine⟨_,tP c.feasts _ (by omega),?_⟩;have e1:=Ly c.feasts (100*(eD n).2.1+(eD n).2.2);have e2:=Ly c.shut n;simp at e1 e2;cases hf:hasB c.feasts (100*(eD n).2.1+(eD n).2.2)
  ·simp[hf,←e1,←e2];exact⟨_,tP c.shut n (by omega),rfl⟩
  ·simp[hf,←e1]
 ·simp[hr]
end Rm
namespace Rm
open Go Go.Proofs Cx
def eg (c:City)(a:Int)(k:Nat):List Int:=((List.range k).map fun(i:Nat)=>a+i).filter (vG c.rest c.feasts c.shut)
theorem Ud (c:City)(a:Int)(k:Nat):eg c a (k+1)=eg c a k++if vG c.rest c.feasts c.shut (a+k) then[a+k] else[]:=by
 unfold eg;rw[JI,lx,Ed]
 congr 1
 cases h:vG c.rest c.feasts c.shut (a+k)<;>simp[h]
theorem adP (c:City)(a:Int){k n:Nat}(h:k≤n):∃r,eg c a n=eg c a k++r:=by
 induction n with
 |zero=>obtain rfl:k=0:=by omega
        exact⟨[],by simp⟩
 |succ n ih=>
  by_cases e:k=n+1
  ·subst e;exact⟨[],by simp⟩
  ·obtain⟨r,hr⟩:=ih (by omega);exact⟨r++_,by rw[Ud,hr,oH]⟩
def oY (d:Int):D:=.tup [.int d]
theorem adQ (c:City)(a b:Int):Uf [.ref (.int a),.ref (.int b),.ref (gh c)]=(eg c a (b-a+1).toNat).map oY:=by
 have hi:∀l:List Int,vk (ints l)=l:=fun l=>by
  show(l.map D.int).map D.i=l;rw[Ac];exact List.map_id l
 show(Ue (vk (ints c.rest)) (vk (ints c.feasts)) (vk (ints c.shut)) a b).map _=_;rw[hi,hi,hi];rfl
theorem adN (c:City)(hc:DS c)(a b:Int)(ha:0≤a)(hb:b≤100400)(yi:a≤100400):ak T 244 [.ref (.int a),.ref (.int b),.ref (gh c)] (.list ((eg c a (b-a+1).toNat).map oY)):=by
 have sH:=adQ c a b;rw[←sH];obtain⟨N,hN⟩:∃N,N=(b-a+1).toNat:=⟨_,rfl⟩
 refine ak.of_it (pc:=(ae qx)) (J:=1000) (k:=1) rfl (fun x hx=>?_) (fun m hm=>?_)
 ·rw[sH] at hx;obtain⟨i,_,rfl⟩:=cZ.1 hx;exact⟨_,rfl,rfl⟩
 ·rw[sH] at hm ⊢;rw[←hN] at hm ⊢;refine Jr ?_;rw[ap1];simp[QH];refine aH.forLoop (α:=Nat) (fun k vr vo=>k≤N∧vr=[.int (a+k)]∧vo=[.list ((eg c a k).map oY)]∧(eg c a k).length≤m) (fun k=>N-k) 0 ?_ ?_
  ·simp[aeV,eg]
  ·rintro k vr vo ⟨hk,rfl,rfl,lJ⟩;by_cases af:k<N
   ·have hle:a+(k:Int)≤b:=by omega
    have dm:IntKind.i64.wrap (a+(k:Int)+1)=a+((k+1:Nat):Int):=by rw[bG (by omega)];omega
    have dD:=(am2 c hc (a+k) (by omega))
    have yH:=Ud c a k;obtain⟨r,hr⟩:=adP c a (k:=k+1) (n:=N) af;simp[aaa,Iq,hle];refine⟨_,dD.yld (by decide),?_⟩;cases hi:vG c.rest c.feasts c.shut (a+k)
    ·simp[hi] at yH ⊢;exact⟨k+1,by omega,by omega,dm,by rw[yH],by rw[yH];exact lJ⟩
    ·simp[hi] at yH ⊢;have hlen:(eg c a (k+1)).length=(eg c a k).length+1:=by rw[yH];simp
     have q6:(eg c a k).map oY++[D.tup [D.int (a+k)]]=(eg c a (k+1)).map oY:=by rw[yH,lx];rfl
     have Cf:(eg c a (k+1)).map oY=((eg c a N).map oY).take ((eg c a k).length+1):=by
      rw[hr,lx,List.take_append_of_le_length (by simp[hlen]),wP (by simp[hlen])]
     have aW:(eg c a k).length<((eg c a N).map oY).length:=by rw[hr];simp[hlen];omega
     rw[q6];refine⟨_,ak.answer Cf aW lJ,?_⟩;by_cases uX:(eg c a k).length<m
     ·simp[uX];exact⟨k+1,by omega,by omega,dm,rfl,by omega⟩
     ·obtain rfl:(eg c a k).length=m:=by omega
      simp;rw[Cf]
   ·obtain rfl:k=N:=by omega
    have hle:¬a+(k:Int)≤b:=by omega
    simp[aaa,Iq,hle];rw[wP (by simp;omega)]
end Rm
namespace Rm
open Go Go.Proofs Cx
theorem adR (c:City)(a b:Int):ak T 216 [gh c,.int a,.int b] (.clo 244 [.ref (.int a),.ref (.int b),.ref (gh c)]):=by
 refine .of_tree rfl (lA 117 (by kernel_rfl)) ap2 ?_;simp[QG]
def lE (d:Int):Int:=if 100000<d+400 then 100000 else d+400
def iQ (c:City)(d:Int):Int×Int:=
 if iy d=false then(0,3) else match eg c d (lE d-d+1).toNat with|[]=>(0,3)|x::_=>(x,0)
theorem adO {c:City}{a:Int}{k:Nat}{x:Int}(h:x∈eg c a k):a≤x∧x<a+k:=by
 unfold eg at h;obtain⟨h1,_⟩:=eO.mp h;obtain⟨i,hi,rfl⟩:=cZ.mp h1;have:=gf.mp hi;omega
theorem amw {c:City}{d:Int}(h:(iQ c d).2=0):iy d=true∧d≤(iQ c d).1∧(iQ c d).1≤100000:=by
 unfold iQ at h ⊢;cases hd:iy d
 ·simp[hd] at h
 ·simp only[hd] at h ⊢;cases hk:eg c d (lE d-d+1).toNat with
  |nil=>rw[hk] at h;simp at h
  |cons x l=>
   have hm:x∈eg c d (lE d-d+1).toNat:=by rw[hk];simp
   have:=adO hm;have he:lE d≤100000:=by unfold lE;split<;>omega
   simp[iy] at hd;simp;unfold lE at*;omega
theorem abM (c:City)(hc:DS c)(d:Int):ak T 183 [gh c,.int d] (.tup [.int (iQ c d).1,.int (iQ c d).2]):=by
 refine .of_tree rfl (lA 116 (by kernel_rfl)) apZ ?_;simp[QE];refine⟨_,D3 d,?_⟩;cases hd:iy d
 ·simp[iQ,hd]
 have fH:0≤d∧d≤100000:=by simpa [iy] using hd
 have hw:IntKind.i64.wrap (d+400)=d+400:=bG (by omega);have he:lE d≤100000:=by unfold lE;split<;>omega
 simp[hd,hw];have hE:(if 100000<d+400 then D.int 100000 else D.int (d+400))=D.int (lE d):=by unfold lE;split<;>rfl
 rw[hE];refine⟨_,adR c d (lE d),_,_,rfl,_,adN c hc d (lE d) fH.1 (by omega) (by omega),?_⟩;cases hk:eg c d (lE d-d+1).toNat with
 |nil=>
  have hn:iQ c d=(0,3):=by unfold iQ;simp[hd,hk]
  rw[hn];refine aH.eachR [] (by simp) (fun _ vo=>vo=[.agg [.int 0],.agg [.int 0]]) ?_ (fun k x vo hx hi=>by simp at hx) (fun vo hi=>?_)
  ·simp
  ·subst hi;simp
 |cons x l=>
  have hn:iQ c d=(x,0):=by unfold iQ;simp[hd,hk]
  rw[hn];refine aH.eachR ((x::l).map oY) (by simp) (fun k vo=>k=0∧vo=[.agg [.int 0],.agg [.int 0]]) ?_ (fun k y vo hx hi=>?_) (fun vo hi=>?_)
  ·simp
  ·obtain⟨rfl,rfl⟩:=hi;simp at hx;subst hx;simp[anZ,Ph,oY];rfl
  ·exact absurd hi.1 (by simp)
end Rm
namespace Rm
open Go Go.Proofs Cx
def I7 (o:Int)(d:Int)(h:Halt):Int:=if(h.order=o∧h.fr≤d)∧d≤h.to then h.to+1 else d
def lb (r:Realm)(o d:Int)(k:Nat):Int:=(r.halts.take k).foldl (I7 o) d
theorem aaZ (r:Realm)(o d:Int){k:Nat}(hk:k<r.halts.length):lb r o d (k+1)=I7 o (lb r o d k) r.halts[k]:=by
 unfold lb;rw[gx hk,wM];rfl
def wL (r:Realm):Prop:=r.halts.length≤100000∧∀h,h∈r.halts→0≤h.fr∧h.to≤100000
theorem Qi {r:Realm}(hh:wL r)(o d:Int)(hd:d≤100001):∀k,k≤r.halts.length→d≤lb r o d k∧lb r o d k≤100001
 |0,_=>⟨by simp[lb],by simpa [lb] using hd⟩
 |k+1,hk=>by
  obtain⟨h1,h2⟩:=Qi hh o d hd k (by omega);rw[aaZ r o d (by omega)];have:=hh.2 _ (cM (show k<r.halts.length by omega));unfold I7;split<;>omega
def wv (r:Realm)(o:Int):Nat→Int→Int
 |0,d=>d
 |n+1,d=>if lb r o d r.halts.length=d then d else wv r o n (lb r o d r.halts.length)
def jZ (r:Realm)(o d:Int):Int:=wv r o (100002-d).toNat d
theorem aa0 {r:Realm}(hh:wL r)(o:Int):∀(n:Nat) (d:Int),d≤100001→d≤wv r o n d∧wv r o n d≤100001
 |0,d,hd=>⟨Ea _,hd⟩
 |n+1,d,hd=>by
  obtain⟨h1,h2⟩:=Qi hh o d hd r.halts.length (aU _);unfold wv;split
  ·omega
  ·have:=aa0 hh o n _ h2;omega
theorem ape (r:Realm)(hh:wL r)(o d:Int)(h0:0≤d)(hd:d≤100001):ak T 182 [bA r,.int o,.int d] (.int (jZ r o d)):=by
 refine .of_tree rfl (lA 115 (by kernel_rfl)) aru ?_;simp[RX];refine aH.forLoop (α:=Int×Bool×Nat) (fun s vr vo=>vr=[.int s.1,.bool s.2.1]∧vo=[]∧d≤s.1∧s.1≤100001∧(s.2.1=true→(100002-s.1).toNat≤s.2.2)∧(s.2.1=true→wv r o s.2.2 s.1=jZ r o d)∧(s.2.1=false→s.1=jZ r o d)) (fun s=>2*(100001-s.1).toNat+(if s.2.1 then 1 else 0)) (d,true,(100002-d).toNat) ?_ ?_
 ·simp;exact⟨by omega,rfl⟩
 ·rintro⟨e,ch,n⟩ vr vo ⟨rfl,rfl,h1,h2,h3,h4,h5⟩;simp only at*;cases ch
  ·simp[aau,IP];exact h5 rfl
  ·have h3:=h3 rfl;have h4:=h4 rfl;obtain⟨n,rfl⟩:∃m,n=m+1:=⟨n-1,by omega⟩
   have cv:=Qi hh o e h2;simp[aau,IP];refine aH.forRounds r.halts.length (fun k=>[.int (lb r o e k),.bool (decide (e<lb r o e k)),.int k]) (fun _=>[]) ?_ (fun k hk=>?_) ?_
   ·simp[lb]
   ·have hw:=bI hk (by have:=hh.1;omega);have cq:=cv k (by omega);have vc:=hh.2 _ (cM hk);rw[aaZ r o e hk];unfold I7;generalize lb r o e k=x at*;by_cases hc:(r.halts[k].order=o∧r.halts[k].fr≤x)∧x≤r.halts[k].to
    ·have eW:IntKind.i64.wrap (r.halts[k].to+1)=r.halts[k].to+1:=bG (by omega);simp[IN,zu,hk,hw,hc,eW];omega
    ·simp[IN,zu,hk,hw,hc]
   ·have hE:=cv r.halts.length (aU _);unfold wv at h4;generalize lb r o e r.halts.length=x at*;by_cases hx:x=e
    ·rw[if_pos hx] at h4;subst hx;simp[IN,zu];exact⟨x,by omega,rfl,h1,h2,h4⟩
    ·rw[if_neg hx] at h4;have af:e<x:=by omega
     simp[IN,zu,af];exact⟨x,by omega,rfl,by omega,by omega,n,by omega,h4⟩
def wq (r:Realm)(c:City)(o:Int):Nat→Int→Int×Int
 |0,d=>(d,0)
 |n+1,d=>
  if(iQ c (jZ r o d)).2≠0 then(0,3)
  else if(iQ c (jZ r o d)).1=jZ r o d then(jZ r o d,0)
  else wq r c o n (iQ c (jZ r o d)).1
theorem ao6 (r:Realm)(c:City)(o:Int)(n:Nat)(d:Int):wq r c o (n+1) d=
 if(iQ c (jZ r o d)).2≠0 then(0,3)
 else if(iQ c (jZ r o d)).1=jZ r o d then(jZ r o d,0)
 else wq r c o n (iQ c (jZ r o d)).1:=rfl
def I4 (r:Realm)(city d:Int):Int×Int:=wq r (r.cities.getD city.toNat default) (fO r city) (100002-d).toNat d
theorem ao7 (r:Realm)(hh:wL r)(city d:Int)(hc:0≤city∧city<r.cities.length)(hs:∀c,c∈r.cities→DS c)(h0:0≤d)(hd:d≤100001):ak T 124 [bA r,.int city,.int d] (.tup [.int (I4 r city d).1,.int (I4 r city d).2]):=by
 refine .of_tree rfl (lA 114 (by kernel_rfl)) art ?_;simp[RW];refine⟨_,ox r city,?_⟩;have aW:city.toNat<r.cities.length:=by omega
 have hcg:r.cities.getD city.toNat default=r.cities[city.toNat]:=by simp[aW]
 have hsc:=hs _ (cM aW);have hF:I4 r city d=wq r r.cities[city.toNat] (fO r city) (100002-d).toNat d:=by unfold I4;rw[hcg]
 rw[hF];refine aH.forLoop (α:=Int×Nat) (fun s vr vo=>(∃a b,vr=[.int s.1,a,b])∧vo=[]∧0≤s.1∧s.1≤100001∧(100002-s.1).toNat≤s.2∧wq r r.cities[city.toNat] (fO r city) s.2 s.1=wq r r.cities[city.toNat] (fO r city) (100002-d).toNat d) (fun s=>s.2) (d,(100002-d).toNat) ?_ ?_
 ·simp;omega
 ·rintro⟨e,n⟩ vr vo ⟨⟨a,b,rfl⟩,rfl,h1,h2,h3,h4⟩;simp only at*;obtain⟨n,rfl⟩:∃m,n=m+1:=⟨n-1,by omega⟩
  rw[←h4];have G6:=aa0 hh (fO r city) (100002-e).toNat e h2;have hsr:=ape r hh (fO r city) e h1 h2;rw[ao6];change e≤jZ r (fO r city) e∧jZ r (fO r city) e≤100001 at G6;generalize jZ r (fO r city) e=x at*;have Mb:=abM r.cities[city.toNat] hsc x;have pv:=amw (c:=r.cities[city.toNat]) (d:=x);generalize iQ r.cities[city.toNat] x=N at*;obtain⟨y,er⟩:=N;simp only at Mb pv;simp[aok,PS];refine⟨_,hsr,?_⟩;simp[aW,hc];refine⟨_,Mb,?_⟩;by_cases he:er=0
  ·obtain⟨g1,g2,g3⟩:=pv he;by_cases hy:y=x
   ·simp[he,hy]
   ·simp[he,hy];exact⟨y,n,by omega,rfl,by omega,by omega,by omega,rfl⟩
  ·simp[he]
end Rm
namespace Rm
open Go Go.Proofs Cx
structure RightD (r:Realm):Prop where
 small:Small r
 halts:wL r
theorem RightD.cities {r:Realm}(h:RightD r)(c:City)(hc:c∈r.cities):DS c:=by
 obtain⟨h1,h2,h3,_⟩:=h.small.city c hc;exact⟨by omega,by omega,by omega⟩
theorem Tl (d:Int)(t:Tenor):∃n e:Int,ak T 180 [.int d,qH t] (.tup [.int n,.int e]):=by
 by_cases h0:t.n<0
 ·refine⟨0,3,.of_tree rfl Ex Jp ?_⟩;simp[zM,h0]
 by_cases h1:20000<t.n
 ·refine⟨0,3,.of_tree rfl Ex Jp ?_⟩;simp[zM,h0,h1]
 by_cases h2:t.unit=1
 ·obtain⟨n,e,h,_⟩:=abo d t.n;refine⟨n,e,.of_tree rfl Ex Jp ?_⟩;simp[zM,h0,h1,h2];refine⟨_,h,?_⟩;simp
 ·refine⟨IntKind.i64.wrap (d+t.n),0,.of_tree rfl Ex Jp ?_⟩;simp[zM,h0,h1,h2]
theorem acN (r:Realm)(hr:RightD r)(b:Bill)(seen:Int):∃n e:Int,ak T 123 [bA r,dV b,.int seen] (.tup [.int n,.int e]):=by
 have htn:D.agg [D.int b.tenor.kind,D.int b.tenor.n,D.int b.tenor.unit]=qH b.tenor:=rfl;by_cases h0:b.tenor.kind=0
 ·refine⟨seen,0,.of_tree rfl Am DY ?_⟩;simp[wy,h0]
 by_cases h1:b.tenor.kind=1
 ·obtain⟨n,e,h⟩:=Tl seen b.tenor;refine⟨n,e,.of_tree rfl Am DY ?_⟩;have cP:(b.tenor.kind=1)=True:=eq_true h1;simp[wy,h0,cP];refine⟨_,h,?_⟩;simp
 by_cases h2:b.tenor.kind=2
 ·obtain⟨n,e,h⟩:=Tl b.day b.tenor;refine⟨n,e,.of_tree rfl Am DY ?_⟩;have j7:(b.tenor.kind=2)=True:=eq_true h2;simp[wy,h0,h1,j7];refine⟨_,h,?_⟩;simp
 by_cases h4:b.tenor.kind=4
 ·obtain⟨n,e,h,_⟩:=abQ r b.city b.pay (by have:=hr.small.us;omega);refine⟨IntKind.i64.wrap (b.day+n),e,.of_tree rfl Am DY ?_⟩;have nL:(b.tenor.kind=4)=True:=eq_true h4;simp[wy,h0,h1,h2,nL];refine⟨_,h,?_⟩;simp
 ·refine⟨b.tenor.n,0,.of_tree rfl Am DY ?_⟩;simp[wy,h0,h1,h2,h4]
theorem ak.ex_of_tree {tab:Nat→Option PC}{ext:Nat→Option (aJ→List D→Option D)}{f:Nat}{pc:PC}{t:PT}{ds:List D}{P:D→Prop}(hx:ext f=none)(ht:tab f=some pc)(he:tree pc=t)
 (h:aE (cH tab ext) t (jG ds) (fun x=>∃d,x=.ret d∧P d)):∃d,ak (cH tab ext) f ds d∧P d:=by
 subst he;obtain⟨x,⟨d,rfl,hd⟩,n0,hn⟩:=abf (HZ ⟨fun _ _ _ h=>(by obtain⟨_,h,_⟩:=h;cases h),fun _ _ _ _ _ _ h=>(by obtain⟨_,h,_⟩:=h;cases h),fun _ h=>h⟩ h);exact⟨d,.of_pc hx ht ⟨.ret d,rfl,n0,hn⟩,hd⟩
def El (d:D):Prop:=∃n e:Int,d=.tup [.int n,.int e]
@[simp] theorem auq (n e:Int):El (.tup [.int n,.int e])=True:=eq_true ⟨n,e,rfl⟩
theorem wI (r:Realm)(hr:RightD r)(b:Bill)(seen gA:Int):∃d,ak T 82 [bA r,dV b,.int seen,.int gA] d∧El d:=by
 have htn:D.agg [D.int b.tenor.kind,D.int b.tenor.n,D.int b.tenor.unit]=qH b.tenor:=rfl;have nO:=PZ r hr.small;refine ak.ex_of_tree rfl acz aro ?_;simp[RS];refine⟨_,nO,?_⟩;by_cases h0:ix r=0
 case neg=>simp[h0]
 simp[h0];refine⟨_,Wy r b.city,?_⟩;cases h1:aC b.city r.cities.length
 ·simp[h1]
 simp[h1];refine⟨_,Wy r b.pay,?_⟩;cases h2:aC b.pay r.cities.length
 ·simp[h2]
 simp[h2];refine⟨_,MY b.day,?_⟩;cases h3:iy b.day
 ·simp[h3]
 simp[h3];intro _ _ _ _;have hp:0≤b.pay∧b.pay<r.cities.length:=by simpa [aC] using h2
 have fin:0≤gA→gA≤20000→∃d,ak T 123 [bA r,dV b,D.int seen] d∧
  if(d.tget 1).i=0 then ∃d1,ak T 121 [d.tget 0] d1∧(d1.b=true→IntKind.i64.wrap ((d.tget 0).i+gA)≤100000→
        ∃d2,ak T 124 [bA r,D.int b.pay,D.int (IntKind.i64.wrap ((d.tget 0).i+gA))] d2∧El (D.tup [d2.tget 0,d2.tget 1]))
  else El (D.tup [D.int 0,d.tget 1]):=by
  intro yr mD;obtain⟨n,e,h⟩:=acN r hr b seen;refine⟨_,h,?_⟩;by_cases he:e=0
  ·simp[he];refine⟨_,MY n,?_⟩;cases hd:iy n
   ·simp[hd]
   have fH:0≤n∧n≤100000:=by simpa [iy] using hd
   have hw:IntKind.i64.wrap (n+gA)=n+gA:=bG (by omega);simp[hd,hw];intro hle;refine⟨_,ao7 r hr.halts b.pay (n+gA) hp hr.cities (by omega) (by omega),?_⟩;simp
  ·simp[he]
 by_cases hs:seen=-1
 ·simp[hs] at fin ⊢;intro yr mD;refine⟨_,Td b.tenor,?_⟩;simp;intro _;exact fin yr mD
 ·simp[hs] at fin ⊢;refine⟨_,MY seen,?_⟩;cases hk:iy seen
  ·simp[hk]
  simp[hk];intro yr mD;exact⟨⟨_,Td b.tenor⟩,fin yr mD⟩
def ux (r:Realm)(b:Bill)(seen gA:Int):Int×Int:=
 open Classical in if h:RightD r then((wI r h b seen gA).choose_spec.2.choose,(wI r h b seen gA).choose_spec.2.choose_spec.choose) else(0,0)
theorem abv (r:Realm)(hr:RightD r)(b:Bill)(seen gA:Int):ak T 82 [bA r,dV b,.int seen,.int gA] (.tup [.int (ux r b seen gA).1,.int (ux r b seen gA).2]):=by
 have h:=(wI r hr b seen gA).choose_spec.2.choose_spec.choose_spec;have h1:=(wI r hr b seen gA).choose_spec.1;rw[h] at h1;have e:ux r b seen gA=((wI r hr b seen gA).choose_spec.2.choose,(wI r hr b seen gA).choose_spec.2.choose_spec.choose):=by unfold ux;rw[dif_pos hr]
 rw[e];exact h1
def yW (r:Realm)(forum:Int)(f:File)(day:Int):Int:=
 if(cO f day).signs=[] then-1
 else if(ux r f.bill (p6 (cO f day)) (max (sY (mu r forum 6 (cO f day) day)) 0)).2≠0 then-1
 else(ux r f.bill (p6 (cO f day)) (max (sY (mu r forum 6 (cO f day) day)) 0)).1
@[simp] theorem ayk (x:File)(a0 a1 a2 a3 a4 a5 a6 a7 a8 a9 nr ns a12 nu nv qo qp qq qs:D):(cr [a0,a1,a2,a3,a4,a5,a6,a7,a8,a9,nr,ns,a12,nu,nv,qo,qp,qq,qs] 0 [.int x.bill.drawer,.int x.bill.drawee,.int x.bill.payee,.int x.bill.sum,.int x.bill.currency,.int x.bill.tenor.kind,.int x.bill.tenor.n,.int x.bill.tenor.unit,.int x.bill.day,.int x.bill.city,.int x.bill.pay,.int x.bill.need,.int x.bill.rate,.int x.bill.flags,.int x.bill.parts,signs x.signs,alters x.alters,acts x.acts,facts x.facts])[15]?.getD D.none=signs x.signs:=_root_.id rfl
theorem abJ (r:Realm)(hr:Right r)(hd:RightD r)(forum:Int)(f:File)(day:Int)(hf:FewS f):ak T 31 [bA r,.int forum,cB f,.int day] (.int (yW r forum f day)):=by
 refine .of_tree rfl (lA 98 (by kernel_rfl)) apL ?_;simp[Qr];refine⟨_,P0 f day (by have:=hf.signs;omega) (by have:=hf.acts;omega) (by have:=hf.alters;omega) (by have:=hf.facts;omega),?_⟩;have hg:=hf.at_ day;have hb:(cO f day).bill=f.bill:=rfl;unfold yW;generalize cO f day=g at*;simp;by_cases h0:g.signs=[]
 ·simp[h0]
 simp[h0];refine⟨_,Tr r hr forum 6 g day hg,_,acm _,_,aot g (by have:=hg.signs;omega) (by have:=hg.acts;omega),?_⟩;have hm:(if(D.int (sY (mu r forum 6 g day))).i<0 then D.int 0 else D.int (sY (mu r forum 6 g day)))=D.int (max (sY (mu r forum 6 g day)) 0):=by
  simp only[adZ];split
  ·rw[Int.max_eq_right (by omega)]
  ·rw[Int.max_eq_left (by omega)]
 rw[hm,hb];refine⟨_,abv r hd f.bill _ _,?_⟩;by_cases he:(ux r f.bill (p6 g) (max (sY (mu r forum 6 g day)) 0)).2=0<;>simp[he]
end Rm
namespace Rm
open Go Go.Proofs Cx
end Rm
namespace Rm
open Go Go.Proofs Cx
structure View where
 realm:Realm
 forum:Int
 day:Int
 file:File
 form:Int
 due:Int
 deriving Inhabited
def di (x:View):D:=.agg [strs x.realm.currencies,oU x.realm.cities,groups x.realm.groups,firms x.realm.firms,orders x.realm.orders,usances x.realm.usances,rates x.realm.rates,halts x.realm.halts,.int x.forum,.int x.day,.int x.file.bill.drawer,.int x.file.bill.drawee,.int x.file.bill.payee,.int x.file.bill.sum,.int x.file.bill.currency,.int x.file.bill.tenor.kind,.int x.file.bill.tenor.n,.int x.file.bill.tenor.unit,.int x.file.bill.day,.int x.file.bill.city,.int x.file.bill.pay,.int x.file.bill.need,.int x.file.bill.rate,.int x.file.bill.flags,.int x.file.bill.parts,signs x.file.signs,alters x.file.alters,acts x.file.acts,facts x.file.facts,.int x.form,.int x.due]
@[simp] theorem auT (x:View):(di x).cells=[strs x.realm.currencies,oU x.realm.cities,groups x.realm.groups,firms x.realm.firms,orders x.realm.orders,usances x.realm.usances,rates x.realm.rates,halts x.realm.halts,.int x.forum,.int x.day,.int x.file.bill.drawer,.int x.file.bill.drawee,.int x.file.bill.payee,.int x.file.bill.sum,.int x.file.bill.currency,.int x.file.bill.tenor.kind,.int x.file.bill.tenor.n,.int x.file.bill.tenor.unit,.int x.file.bill.day,.int x.file.bill.city,.int x.file.bill.pay,.int x.file.bill.need,.int x.file.bill.rate,.int x.file.bill.flags,.int x.file.bill.parts,signs x.file.signs,alters x.file.alters,acts x.file.acts,facts x.file.facts,.int x.form,.int x.due]:=_root_.id rfl
@[simp] theorem aya (x:View):D.agg [strs x.realm.currencies,oU x.realm.cities,groups x.realm.groups,firms x.realm.firms,orders x.realm.orders,usances x.realm.usances,rates x.realm.rates,halts x.realm.halts,.int x.forum,.int x.day,.int x.file.bill.drawer,.int x.file.bill.drawee,.int x.file.bill.payee,.int x.file.bill.sum,.int x.file.bill.currency,.int x.file.bill.tenor.kind,.int x.file.bill.tenor.n,.int x.file.bill.tenor.unit,.int x.file.bill.day,.int x.file.bill.city,.int x.file.bill.pay,.int x.file.bill.need,.int x.file.bill.rate,.int x.file.bill.flags,.int x.file.bill.parts,signs x.file.signs,alters x.file.alters,acts x.file.acts,facts x.file.facts,.int x.form,.int x.due]=di x:=_root_.id rfl
@[simp] theorem ava (x:View):iw 31 (di x)=di x:=_root_.id rfl
@[simp] theorem ayl (x:View)(a0 a1 a2 a3 a4 a5 a6 a7 a8 a9 nr ns a12 nu nv qo qp qq qs JR a20 a21 a22 JS a24 a25 a26 a27 a28 a29 a30:D):D.agg (cr [a0,a1,a2,a3,a4,a5,a6,a7,a8,a9,nr,ns,a12,nu,nv,qo,qp,qq,qs,JR,a20,a21,a22,JS,a24,a25,a26,a27,a28,a29,a30] 0 [strs x.realm.currencies,oU x.realm.cities,groups x.realm.groups,firms x.realm.firms,orders x.realm.orders,usances x.realm.usances,rates x.realm.rates,halts x.realm.halts,.int x.forum,.int x.day,.int x.file.bill.drawer,.int x.file.bill.drawee,.int x.file.bill.payee,.int x.file.bill.sum,.int x.file.bill.currency,.int x.file.bill.tenor.kind,.int x.file.bill.tenor.n,.int x.file.bill.tenor.unit,.int x.file.bill.day,.int x.file.bill.city,.int x.file.bill.pay,.int x.file.bill.need,.int x.file.bill.rate,.int x.file.bill.flags,.int x.file.bill.parts,signs x.file.signs,alters x.file.alters,acts x.file.acts,facts x.file.facts,.int x.form,.int x.due])=di x:=_root_.id rfl
@[simp] theorem auR (x:View):(di x).c 8=.int x.forum:=_root_.id rfl
@[simp] theorem auS (x:View):(di x).c 9=.int x.day:=_root_.id rfl
@[simp] theorem auv (x:View):(di x).c 10=.int x.file.bill.drawer:=_root_.id rfl
@[simp] theorem auw (x:View):(di x).c 11=.int x.file.bill.drawee:=_root_.id rfl
@[simp] theorem auy (x:View):(di x).c 12=.int x.file.bill.payee:=_root_.id rfl
@[simp] theorem auz (x:View):(di x).c 13=.int x.file.bill.sum:=_root_.id rfl
@[simp] theorem auA (x:View):(di x).c 14=.int x.file.bill.currency:=_root_.id rfl
@[simp] theorem auB (x:View):(di x).c 15=.int x.file.bill.tenor.kind:=_root_.id rfl
@[simp] theorem auC (x:View):(di x).c 16=.int x.file.bill.tenor.n:=_root_.id rfl
@[simp] theorem auD (x:View):(di x).c 17=.int x.file.bill.tenor.unit:=_root_.id rfl
@[simp] theorem auE (x:View):(di x).c 18=.int x.file.bill.day:=_root_.id rfl
@[simp] theorem auF (x:View):(di x).c 19=.int x.file.bill.city:=_root_.id rfl
@[simp] theorem auG (x:View):(di x).c 20=.int x.file.bill.pay:=_root_.id rfl
@[simp] theorem auH (x:View):(di x).c 21=.int x.file.bill.need:=_root_.id rfl
@[simp] theorem auI (x:View):(di x).c 22=.int x.file.bill.rate:=_root_.id rfl
@[simp] theorem auJ (x:View):(di x).c 23=.int x.file.bill.flags:=_root_.id rfl
@[simp] theorem auK (x:View):(di x).c 24=.int x.file.bill.parts:=_root_.id rfl
@[simp] theorem auL (x:View):(di x).c 25=signs x.file.signs:=_root_.id rfl
@[simp] theorem auM (x:View):(di x).c 26=alters x.file.alters:=_root_.id rfl
@[simp] theorem auN (x:View):(di x).c 27=acts x.file.acts:=_root_.id rfl
@[simp] theorem auO (x:View):(di x).c 28=facts x.file.facts:=_root_.id rfl
@[simp] theorem auP (x:View):(di x).c 29=.int x.form:=_root_.id rfl
@[simp] theorem auQ (x:View):(di x).c 30=.int x.due:=_root_.id rfl
@[simp] theorem au1 (x:View):iw 8 (di x)=bA x.realm:=_root_.id rfl
def jo:List Int→Int→Int
 |[],o=>o
 |x::l,o=>if x=0 then 0 else jo l (if x=2 then 2 else o)
theorem ajU {l:List Int}{o:Int}(hn:∀x,x∈l→¬x=0)(h2:o=1∨o=2):jo l o=if o=2∨2∈l then 2 else 1:=by
 induction l generalizing o with
 |nil=>rcases h2 with h|h<;>simp[jo,h]
 |cons x l ih=>
  have hx:=hn x (by simp);unfold jo;rw[if_neg hx];by_cases e:x=2
  ·rw[if_pos e,ih (fun y hy=>hn y (by simp[hy])) (.inr rfl)];simp[e]
  ·rw[if_neg e,ih (fun y hy=>hn y (by simp[hy])) h2];simp[rN e]
theorem WJ:∀{l:List Int} {o:Int} {k:Nat} (hk:k<l.length),(∀j (hj:j<k),¬l[j]'(by omega)=0)→l[k]=0→jo l o=0
 |[],o,k,hk,_,_=>by simp at hk
 |x::l,o,0,hk,hj,h=>by
  unfold jo;rw[if_pos (by simpa using h)]
 |x::l,o,k+1,hk,hj,h=>by
  unfold jo;rw[if_neg (by have:=hj 0 (by omega);simpa using this)];exact WJ (k:=k) (by simpa using hk) (fun j nP=>by have:=hj (j+1) (by omega);simpa using this) (by simpa using h)
def yY (l:List Int)(k:Nat):Int:=if 2∈l.take k then 2 else 1
theorem ajV (l:List Int)(hl:l.length≤100000):ak T 114 [ints l] (.int (jo l 1)):=by
 refine .of_tree rfl (lA 123 (by kernel_rfl)) apT ?_;simp[Qy];refine aH.scan l.length (fun k=>l.getD k 0≠0) (fun k=>[.int 0,.int (yY l k),.int k]) (fun _=>[]) ?_ (fun k hk hj au=>?_) (fun k hk hj au=>?_) (fun hj=>?_)
 ·simp[yY]
 ·have hw:=bI hk (by omega);have hx:¬l[k]=0:=by simpa [hk] using au
  have hm:yY l (k+1)=if l[k]=2 then 2 else yY l k:=by
   unfold yY;rw[gx hk];simp only[dg,tU];by_cases e:l[k]=2
   ·simp[e]
   ·simp[e,rN e]
  rw[hm];simp[Pf,C0,hk,hw,hx];by_cases e:l[k]=2<;>simp[e]
 ·have hx:l[k]=0:=by simpa [hk] using au
  simp[Pf,C0,hk,hx];rw[WJ hk (fun j nP=>by simpa [show j<l.length by omega] using hj j nP) hx]
 ·simp[Pf,C0];rw[ajU (fun x hx=>by obtain⟨j,fJ,rfl⟩:=fj hx;simpa [fJ] using hj j fJ) (.inl rfl)];simp[yY]
def bY (v:View)(q sign:Int):Int:=m5 (oQ v.realm v.forum q ⟨v.file,sign,sign,-1,v.due,v.day⟩)
theorem Qc (v:View)(hr:Right v.realm)(hf:FewS v.file)(q sign:Int):ak T 115 [di v,.int q,.int sign] (.int (bY v q sign)):=by
 refine .of_tree rfl (lA 122 (by kernel_rfl)) apW ?_;simp[QB];refine⟨nI (oQ v.realm v.forum q ⟨v.file,sign,sign,-1,v.due,v.day⟩),Tq v.realm hr v.forum q ⟨v.file,sign,sign,-1,v.due,v.day⟩ hf,Ts _⟩
def mq (f:File)(sign:Int)(n:Nat):Bool:=(f.alters.take n).any fun a=>decide (sign<a.at_)
def sQ (f:File):Int:=(f.alters.getD (f.alters.length-1) default).sum
def kB (v:View)(sign:Int):Int×Int:=
 if mq v.file sign v.file.alters.length=false then(0,lg v.file sign v.file.alters.length)
 else if bY v 4 sign=1 then(1,sQ v.file)
 else if bY v 4 sign=2 then(2,min (lg v.file sign v.file.alters.length) (sQ v.file))
 else(bY v 4 sign,lg v.file sign v.file.alters.length)
theorem apC (v:View)(hr:Right v.realm)(hf:FewS v.file)(sign:Int):ak T 116 [di v,.int sign] (.tup [.int (kB v sign).1,.int (kB v sign).2]):=by
 refine .of_tree rfl (lA 124 (by kernel_rfl)) apX ?_;simp[QC];have uL:=hf.alters;refine⟨_,ank v.file sign (by omega),?_⟩;refine aH.forRounds v.file.alters.length (fun k=>[.bool (mq v.file sign k),.int k]) (fun _=>[]) ?_ (fun k hk=>?_) ?_
 ·simp[mq]
 ·have hw:=bI hk (by omega);have hs:mq v.file sign (k+1)=(mq v.file sign k||decide (sign<v.file.alters[k].at_)):=by
   unfold mq;rw[gx hk,List.any_append];simp
  rw[hs];cases mq v.file sign k<;>simp[Pg,C1,hk,hw]
 ·unfold kB;cases ha:mq v.file sign v.file.alters.length
  ·simp[Pg,C1,ha]
  simp[Pg,C1,ha];have G1:0<v.file.alters.length:=by
   rcases Nat.eq_zero_or_pos v.file.alters.length with e|e
   ·simp[mq,SZ.mp e] at ha
   ·exact e
  have hw:IntKind.i64.wrap ((v.file.alters.length:Int)-1)=(v.file.alters.length:Int)-1:=bG (by omega);have hn:((v.file.alters.length:Int)-1).toNat=v.file.alters.length-1:=by omega
  have af:v.file.alters.length-1<v.file.alters.length:=by omega
  have uR:sQ v.file=v.file.alters[v.file.alters.length-1].sum:=by simp[sQ,af]
  simp[hw,hn,af];refine⟨by omega,_,Qc v hr hf 4 sign,?_⟩;rw[uR];by_cases h1:bY v 4 sign=1
  ·simp[h1]
  by_cases h2:bY v 4 sign=2
  ·simp[h1,h2];split
   ·rw[Int.min_eq_right (by omega)]
   ·rw[Int.min_eq_left (by omega)]
  ·simp[h1,h2]
@[simp] theorem ayN (a0 a1 a2 a3 a4 a5 a6 x:D):cr [a0,a1,a2,a3,a4,a5,a6] 3 [x]=[a0,a1,a2,x,a4,a5,a6]:=_root_.id rfl
@[simp] theorem ayO (a0 a1 a2 a3 a4 a5 a6 x:D):cr [a0,a1,a2,a3,a4,a5,a6] 4 [x]=[a0,a1,a2,a3,x,a5,a6]:=_root_.id rfl
@[simp] theorem ayP (a0 a1 a2 a3 a4 a5 a6 x:D):cr [a0,a1,a2,a3,a4,a5,a6] 5 [x]=[a0,a1,a2,a3,a4,x,a6]:=_root_.id rfl
def mw (v:View)(sign:Int):Effect:=
 let s:=v.file.signs.getD sign.toNat default
 ⟨sign,s.kind,s.who,if wx v.file sign v.day=true then 0 else jo [v.form,bY v 1 sign,bY v 2 sign] 1,(kB v sign).1,
    if s.kind=1∨s.kind=4 then min (kB v sign).2 s.sum else(kB v sign).2,decide (s.kind≠1)&&decide (cj .and .i64 s.flags 1=0)⟩
theorem aeL (v:View)(hr:Right v.realm)(hf:FewS v.file)(sign:Int)(h0:0≤sign)(h1:sign<v.file.signs.length):ak T 74 [di v,.int sign] (qC (mw v sign)):=by
 refine .of_tree rfl (lA 119 (by kernel_rfl)) apV ?_;obtain⟨k,rfl⟩:=mh h0;have hk:k<v.file.signs.length:=by omega
 have cS:=apF v.file k v.day (by have:=hf.acts;omega);have MF:=apC v hr hf k;have km:v.file.signs.getD (k:Int).toNat default=v.file.signs[k]:=by simp[hk]
 have V9:=Qc v hr hf 1 k;have dE:=Qc v hr hf 2 k;have hj:ak T 114 [.list [.int v.form,.int (bY v 1 k),.int (bY v 2 k)]] (.int (jo [v.form,bY v 1 k,bY v 2 k] 1)):=ajV [v.form,bY v 1 k,bY v 2 k] (by simp);have hif:(if v.file.signs[k].kind=1 then D.bool false else D.bool (decide (cj BinOp.and IntKind.i64 v.file.signs[k].flags 1=0)))=D.bool (decide (v.file.signs[k].kind≠1)&&decide (cj BinOp.and IntKind.i64 v.file.signs[k].flags 1=0)):=by
  by_cases h:v.file.signs[k].kind=1<;>simp[h]
 unfold mw;rw[km];generalize bY v 1 k=s1 at*;generalize bY v 2 k=s2 at*;generalize jo [v.form,s1,s2] 1=jj at*;generalize kB v k=tx at*;obtain⟨t1,t2⟩:=tx;simp only at MF;simp[QA,hk,hif];refine⟨_,cS,?_⟩;have uW:∀a b:Int,(if b<a then D.int b else D.int a)=D.int (min a b):=by
  intro a b;split
  ·rw[Int.min_eq_right (by omega)]
  ·rw[Int.min_eq_left (by omega)]
 cases G6:wx v.file k v.day
 ·simp[G6];refine⟨_,V9,_,dE,_,hj,_,MF,?_⟩;by_cases h1:v.file.signs[k].kind=1∨v.file.signs[k].kind=4
  ·simp[h1,uW];rfl
  ·simp[h1,uW];rfl
 ·simp[G6];refine⟨_,MF,?_⟩;by_cases h1:v.file.signs[k].kind=1∨v.file.signs[k].kind=4
  ·simp[h1,uW];rfl
  ·simp[h1,uW];rfl
def iT (r:Realm)(forum:Int)(f:File)(day:Int):View:=⟨r,forum,day,cO f day,m5 (mu r forum 0 (cO f day) day),yW r forum (cO f day) day⟩
theorem am3 (r:Realm)(hr:Right r)(hd:RightD r)(forum:Int)(f:File)(day:Int)(hf:FewS f):ak T 73 [bA r,.int forum,cB f,.int day] (di (iT r forum f day)):=by
 refine .of_tree rfl (lA 56 (by kernel_rfl)) apU ?_;simp[Qz];have hg:=hf.at_ day;refine⟨_,P0 f day (by have:=hf.signs;omega) (by have:=hf.acts;omega) (by have:=hf.alters;omega) (by have:=hf.facts;omega),?_⟩;simp;refine⟨_,Tr r hr forum 0 _ day hg,_,Ts _,_,abJ r hr hd forum _ day hg,?_⟩;simp;rfl
def oW (r:Realm)(forum:Int)(f:File)(day:Int):List Effect:=(List.range (iT r forum f day).file.signs.length).map fun(k:Nat)=>mw (iT r forum f day) k
theorem abw (r:Realm)(hr:Right r)(hd:RightD r)(forum:Int)(f:File)(day:Int)(hf:FewS f):ak T 21 [bA r,.int forum,cB f,.int day] (A4 (oW r forum f day)):=by
 refine .of_tree rfl (lA 55 (by kernel_rfl)) apS ?_;simp[Qx];refine⟨_,am3 r hr hd forum f day hf,?_⟩;have hg:FewS (iT r forum f day).file:=hf.at_ day;have uY:(iT r forum f day).realm=r:=rfl;unfold oW;generalize iT r forum f day=v at*;have hl:=hg.signs;refine aH.forRounds v.file.signs.length (fun k=>[.none,.int k]) (fun k=>[A4 ((List.range k).map fun(k:Nat)=>mw v k)]) ?_ (fun k hk=>?_) ?_
 ·simp[A4]
 ·have hw:=bI hk (by omega);have he:=aeL v (uY▸hr) hg k (by omega) (by omega);rw[JI,lx];have hln:((List.range k).map fun(k:Nat)=>mw v k).length=k:=by simp
  generalize ((List.range k).map fun(k:Nat)=>mw v k)=A at*;simp[Z9,Ip,hk,hw];exact⟨_,he,by omega,by simp[A4]⟩
 ·simp[Z9,Ip]
end Rm
namespace Rm
open Go Go.Proofs Cx
theorem Bc {n:Nat}{f:Nat→Int}(h:eU n f=0)(k:Nat)(hk:k<n):f k=0:=F4.1 h k hk
theorem ado {r:Realm}(h:ix r=0)(k:Nat)(hk:k<r.orders.length):s9 r.orders[k]=true:=by
 unfold ix at h;rw[DP] at h;have h1:=h (jH (ri r) 20 (vH r)) (by simp);unfold jH at h1;split at h1
 ·cases h1
 have h2:=Bc h1 k (by simpa [ri] using hk);have h3:=(Ld h2).2;unfold vH at h3;simpa [hk] using h3
theorem agx {r:Realm}(hs:Small r)(h:ix r=0):zX r:=by
 intro o ho;obtain⟨k,hk,rfl⟩:=fj ho;have h1:=ado h k hk;obtain⟨hc,_⟩:=hs.order _ ho;refine⟨by omega,fun ch kK=>?_⟩;unfold s9 at h1;simp only[aq] at h1;obtain⟨j,hj,rfl⟩:=fj kK;have h2:=Ai.1 h1.1 j hj;simpa [aC,hj] using h2
theorem agy {r:Realm}(hs:Small r)(h:ix r=0):wL r:=by
 refine⟨by have:=hs.halts;omega,fun x hx=>?_⟩;obtain⟨k,hk,rfl⟩:=fj hx;unfold ix at h;rw[DP] at h;have h1:=h (pZ r) (by simp);unfold pZ at h1;split at h1
 ·cases h1
 split at h1
 ·cases h1
 split at h1
 ·cases h1
 split at h1
 ·rename_i aR;have h2:=Ai.1 aR k hk;simp[Bs,wi,aC,hk] at h2;omega
 ·cases h1
structure Good (r:Realm) (f:File):Prop where
 right:Right r
 rightD:RightD r
 few:FewS f
theorem agz {r:Realm}{f:File}(hr:r.OK)(h:yb r f=true):Good r f:=by
 unfold yb nJ at h;simp only[aq,decide_eq_true_eq] at h;obtain⟨⟨⟨h1,h2⟩,h3⟩,h4⟩:=h;have hs:=K8 hr h1;refine⟨⟨agx hs h4,by have:=hs.orders;omega,fun o ho=>?_⟩,⟨hs,agy hs h4⟩,?_⟩
 ·have:=hs.order o ho;refine⟨?_,by omega⟩;exact hr.2.2.2.2.1.2 o ho
 ·simp[xW] at h2;exact⟨by omega,by omega,by omega,by omega⟩
theorem afk {r:Realm}{f:File}(h:yb r f=true):f.facts.length≤220:=by
 unfold yb nJ at h;simp only[aq,decide_eq_true_eq] at h;have:=h.1.1.2;simp[xW] at this;omega
end Rm
namespace Rm
open Go Go.Proofs Cx
def iZ (a b:Cell):Prop:=a.known=true→b=a
theorem iZ.rfl' (a:Cell):iZ a a:=fun _=>rfl
theorem iZ.no (b:Cell):iZ dH b:=fun h=>by cases h
def oF (l l':List Cell):Prop:=l.length=l'.length∧∀i,iZ (aK l i) (aK l' i)
theorem TX {α:Type}(f:α→Cell)(l:List α)(i:Nat)(hi:i<l.length):aK (l.map f) i=f l[i]:=by
 simp[aK,hi]
theorem TY (l:List Cell)(i:Nat)(hi:l.length≤i):aK l i=default:=by
 simp[aK,hi]
theorem oF.map {α:Type}{f g:α→Cell}{l:List α}(h:∀a,a∈l→iZ (f a) (g a)):oF (l.map f) (l.map g):=by
 refine⟨by simp,fun i=>?_⟩;by_cases hi:i<l.length
 ·rw[TX f l i hi,TX g l i hi];exact h _ (cM hi)
 ·rw[TY _ i (by simpa using hi),TY _ i (by simpa using hi)];exact .rfl' _
theorem ar2 {cs fE:List Cell}(h:oF cs fE)(v:Int):iZ (iX cs v) (iX fE v):=by
 intro hk;have hv:=h.2 v.toNat;unfold iX at hk ⊢;unfold cellAt at hk ⊢;unfold aK at hv;by_cases h1:cs.length≤v.toNat∨(cs.getD v.toNat default).known=false
 ·rw[if_pos h1] at hk;cases hk
 ·have h2:(cs.getD v.toNat default).known=true:=by
   cases e:(cs.getD v.toNat default).known
   ·exact absurd (.inr e) h1
   ·rfl
  rw[hv h2,←h.1]
theorem T6 {l l':List Cell}(h:oF l l')(op:Int):iZ (eR op l) (eR op l'):=by
 intro hk;have h0:=h.2 0;have h1:=h.2 1;have h2:=h.2 2;unfold eR at hk ⊢;by_cases o3:op=3
 ·rw[if_pos o3] at hk ⊢;rw[if_pos o3];cases e:(aK l 0).known
  ·rw[e] at hk;cases hk
  ·rw[h0 e,e]
 rw[if_neg o3] at hk ⊢;rw[if_neg o3];by_cases o4:(op=4∨op=5)∧(aK l 0=dL (decide (op=5))∨aK l 1=dL (decide (op=5)))
 ·have o4':(op=4∨op=5)∧(aK l' 0=dL (decide (op=5))∨aK l' 1=dL (decide (op=5))):=by
   refine⟨o4.1,?_⟩;have hy:∀b,(dL b).known=true:=fun b=>by cases b<;>rfl
   rcases o4.2 with e|e
   ·exact .inl ((h0 (by rw[e];exact hy _)).trans e)
   ·exact .inr ((h1 (by rw[e];exact hy _)).trans e)
  rw[if_pos o4,if_pos o4']
 rw[if_neg o4] at hk ⊢;by_cases o6:op=6
 ·have o5:¬((op=4∨op=5)∧(aK l' 0=dL (decide (op=5))∨aK l' 1=dL (decide (op=5)))):=by omega
  rw[if_pos o6] at hk ⊢;rw[if_neg o5,if_pos o6];by_cases e:(aK l 1).known=true∧aK l 1=aK l 2
  ·have e1:=h1 e.1;have e2:=h2 (by rw[←e.2];exact e.1);rw[if_pos e,e1,e2,if_pos e]
  ·rw[if_neg e] at hk;cases hk
 rw[if_neg o6] at hk ⊢;by_cases ok:(aK l 0).known=false∨(aK l 1).known=false
 ·rw[if_pos ok] at hk;cases hk
 have k0:(aK l 0).known=true:=by cases e:(aK l 0).known<;>simp[e] at ok ⊢
 have k1:(aK l 1).known=true:=by cases e:(aK l 1).known<;>simp[e] at ok ⊢
 rw[h0 k0,h1 k1,if_neg o4,if_neg o6]
theorem Uw:∀{L:Nat} {t:Tm} {k:Int} {cs fE:List Cell},oF cs fE→bP L t=(k,0)→iZ (bk L cs t) (bk L fE t)
 |0,t,k,cs,fE,hc,h=>.no _
 |L+1,t,k,cs,fE,hc,h=>by
  obtain⟨hn,hk⟩:=FO h;obtain⟨ha,_⟩:=FN h;have ih:∀a,a∈t.args→iZ (bk L cs a) (bk L fE a):=fun a hm=>Uw hc (show bP L a=((bP L a).1,0) by rw[←ha a hm]);have ir:∀(c:List Cell) a,a∈t.args→rP (bP L a).1 (bk L c a):=fun c a hm=>K6 c (show bP L a=((bP L a).1,0) by rw[←ha a hm]);have im:=oF.map ih;rw[xV,xV];by_cases o0:t.op=0∨t.op=1
  ·rw[if_pos o0,if_pos o0];exact .rfl' _
  rw[if_neg o0,if_neg o0];by_cases o2:t.op=2
  ·rw[if_pos o2,if_pos o2];exact ar2 hc _
  rw[if_neg o2,if_neg o2];by_cases o6:t.op=6
  ·cases hn with
   |ite k h0 cq=>
    obtain⟨a,b,c,hl,e1,e2,e3⟩:=Hm cq;rw[hl] at ih ir im ⊢;have r1:=ir fE a (by simp);rw[e1] at r1;have m1:=ih a (by simp);have m2:=ih b (by simp);have m3:=ih c (by simp);by_cases g:t.op=6∧(aK ([a,b,c].map (bk L cs)) 0).known=true
    ·have e:aK ([a,b,c].map (bk L fE)) 0=aK ([a,b,c].map (bk L cs)) 0:=im.2 0 g.2;have g':t.op=6∧(aK ([a,b,c].map (bk L fE)) 0).known=true:=⟨g.1,by rw[e];exact g.2⟩
     rw[if_pos g,if_pos g',e];exact im.2 _
    rw[if_neg g];by_cases g':t.op=6∧(aK ([a,b,c].map (bk L fE)) 0).known=true
    ·rw[if_pos g'];intro nQ;unfold eR at nQ ⊢;rw[if_neg (by omega),if_neg (by omega),if_pos o6] at nQ ⊢;simp only[eB,Ad,aK,qg,Aa] at nQ g' ⊢;by_cases e:(bk L cs b).known=true∧bk L cs b=bk L cs c
     ·rw[if_pos e];have q1:=m2 e.1;have q2:=m3 (by rw[←e.2];exact e.1);rcases(r1.2 g'.2).1 rfl with h1|h1<;>rw[h1]
      ·show bk L fE c=_;rw[q2,e.2]
      ·show bk L fE b=_;exact q1
     ·rw[if_neg e] at nQ;cases nQ
    ·rw[if_neg g'];exact T6 im _
   |_=>omega
  ·rw[if_neg (by omega),if_neg (by omega)];exact T6 im _
theorem aeZ {cs fE:List Cell}(h:oF cs fE)(t:Tm):iZ (oZ cs t) (oZ fE t):=by
 unfold oZ;by_cases e:(lD t).2=0
 ·rw[if_pos e,if_pos e];exact Uw h (TZ e).2
 ·rw[if_neg e];exact .no _
theorem acd {cs fE:List Cell}(h:oF cs fE)(o:Order)(ask:Int):iZ (ny o ask cs).1 (ny o ask fE).1∧(ny o ask fE).2=(ny o ask cs).2:=by
 unfold ny;by_cases e:(findF o ask).2≠0
 ·rw[if_pos e,if_pos e];exact⟨.rfl' _,rfl⟩
 rw[if_neg e,if_neg e];refine⟨?_,rfl⟩;intro hk;have hm:=aeZ h (findF o ask).1;simp only at hk ⊢;cases e2:(oZ cs (findF o ask).1).known
 ·rw[e2] at hk;simp[e2] at hk
 ·rw[hm e2,e2]
structure SameF (f g:File):Prop where
 bill:g.bill=f.bill
 signs:g.signs=f.signs
 alters:g.alters=f.alters
 acts:g.acts=f.acts
theorem SameF.at_ {f g:File}(h:SameF f g)(day:Int):SameF (cO f day) (cO g day):=by
 obtain⟨h1,h2,h3,h4⟩:=h;constructor<;>simp[cO,h1,h2,h3,h4]
def gL (c:Case)(g:File):Case:={c with file:=g}
theorem aoT {c:Case}{g:File}(h:SameF c.file g)(r:Realm)(s:Sign)(i:Nat):aK (ph r (gL c g) s) i=
 if i=15 then cU g 0 c.sign else if i=16 then cU g 1 c.sign else if i=17 then cU g 2 c.sign else if i=18 then cU g 3 (gF c) else if i=19 then cU g 4 (gF c) else aK (ph r c s) i:=by
 obtain⟨h1,h2,h3,h4⟩:=h
 have e:(ph r (gL c g) s)=(l9 c s).map (fun p=>⟨true,p.2⟩)++(mY r c s).map (fun p=>dL p.2)++
  [cU g 0 c.sign,cU g 1 c.sign,cU g 2 c.sign,cU g 3 (gF c),cU g 4 (gF c)]:=by
  simp[ph,gL,l9,mY,gF,JU,h1,h3,vm];exact⟨rfl,rfl,rfl,rfl⟩
 rw[e];unfold ph l9 mY;rcases i with _|_|_|_|_|_|_|_|_|_|_|_|_|_|_|_|_|_|_|_|i<;>simp[aK]
theorem aoV {c:Case}{g:File}(h:SameF c.file g)(r:Realm):(fh r (gL c g)=[]↔fh r c=[]):=by
 obtain⟨h1,h2,h3,h4⟩:=h;have e1:kF (gL c g)=kF c:=by simp[kF,gL,h2,gF];rfl
 unfold fh;rw[e1];simp only[gL,h2];split
 ·simp[ph,l9]
 ·simp
def SN (f g:File)(s h:Int):Prop:=(∀k,iZ (cU f k s) (cU g k s))∧(∀k,iZ (cU f k h) (cU g k h))
theorem ar4 {c:Case}{g:File}(h:SameF c.file g)(hf:SN c.file g c.sign (gF c))(r:Realm):oF (fh r c) (fh r (gL c g)):=by
 have e1:kF (gL c g)=kF c:=by simp[kF,gL,h.signs,gF];rfl
 unfold fh;rw[e1];simp only[show(gL c g).file.signs=c.file.signs from h.signs,show(gL c g).sign=c.sign from rfl];split
 ·generalize c.file.signs.getD c.sign.toNat default=s;refine⟨by simp[ph,l9,mY],fun i=>?_⟩;rw[aoT h r s i];have hs:∀j,j=15∨j=16∨j=17∨j=18∨j=19∨(j≠15∧j≠16∧j≠17∧j≠18∧j≠19):=by omega
  rcases hs i with e|e|e|e|e|⟨a,b,c',d,e⟩
  ·subst e;exact hf.1 0
  ·subst e;exact hf.1 1
  ·subst e;exact hf.1 2
  ·subst e;exact hf.2 3
  ·subst e;exact hf.2 4
  ·rw[if_neg a,if_neg b,if_neg c',if_neg d,if_neg e];exact .rfl' _
 ·exact⟨rfl,fun i=>.rfl' _⟩
theorem aoU {c:Case}{g:File}(h:SameF c.file g)(r:Realm)(forum:Int):gK r forum (gL c g)=gK r forum c:=by
 obtain⟨h1,h2,h3,h4⟩:=h;simp[gK,nz,kq,gL,dS,h1,h2]
theorem XP (c:Case)(g:File):ej (gL c g)=gL (ej c) (cO g c.day):=rfl
theorem aco (r:Realm)(forum q:Int){c:Case}{g:File}(h:SameF c.file g)(hf:SN (cO c.file c.day) (cO g c.day) c.sign (gF c)):
 iZ (oQ r forum q c).cell (oQ r forum q (gL c g)).cell∧(oQ r forum q (gL c g)).err=(oQ r forum q c).err:=by
 have hs:=h.at_ c.day;have hv:=ar4 (c:=ej c) hs hf r;have he:=aoV (c:=ej c) hs r;have hp:=aoU (c:=ej c) hs r forum;have e1:(fB r forum q (gL c g)).1=(fB r forum q c).1:=by
  unfold fB;rw[XP];rw[hp];by_cases e:fh r (ej c)=[]
  ·rw[if_pos e,if_pos (he.2 e)]
  ·rw[if_neg e,if_neg (fun x=>e (he.1 x))];split
   ·rfl
   split
   ·rfl
   rfl
 have e2:oF (fB r forum q c).2 (fB r forum q (gL c g)).2:=by
  unfold fB;rw[XP];rw[hp];by_cases e:fh r (ej c)=[]
  ·rw[if_pos e,if_pos (he.2 e)];exact⟨rfl,fun i=>.rfl' _⟩
  ·rw[if_neg e,if_neg (fun x=>e (he.1 x))];split
   ·exact⟨rfl,fun i=>.rfl' _⟩
   split
   ·exact⟨rfl,fun i=>.rfl' _⟩
   exact hv
 unfold oQ;rw[e1];split
 ·exact⟨.rfl' _,rfl⟩
 ·exact acd e2 _ _
theorem arO {a b:Said}(h:iZ a.cell b.cell)(he:b.err=a.err)(hn:m5 a≠2):m5 b=m5 a:=by
 unfold m5 at*;rw[he];split
 ·rfl
 ·rename_i e;rw[if_neg e] at hn;cases hk:a.cell.known
  ·rw[hk] at hn;simp at hn
  ·rw[h hk,hk]
end Rm
namespace Rm
open Go Go.Proofs Cx
theorem UD (f:File)(day k s:Int):cU (cO f day) k s=if aC s (rH day f.signs).length=true then cU f k s else dH:=by
 unfold cU;have h:(cO f day).facts.find? (kH k s)=if aC s (rH day f.signs).length=true then f.facts.find? (kH k s) else none:=by
  show(f.facts.filter (j6 (rH day f.signs).length)).find? (kH k s)=_;generalize (rH day f.signs).length=n
  induction f.facts with
  |nil=>simp
  |cons x l ih=>
   by_cases hx:kH k s x=true
   ·have hs:x.at_=s:=by simp[kH] at hx;exact hx.2
    by_cases hn:aC s n=true
    ·have:j6 n x=true:=by unfold j6;rw[hs];exact hn
     simp[JC,this,hx,hn]
    ·have:¬j6 n x=true:=by unfold j6;rw[hs];exact hn
     simp only[JC,if_neg this,ih,if_neg hn]
   ·by_cases hn:j6 n x=true
    ·simp[JC,hn,hx,ih]
    ·simp[JC,hn,hx,ih]
 rw[h];by_cases hn:aC s (rH day f.signs).length=true
 ·rw[if_pos hn,if_pos hn]
 ·rw[if_neg hn,if_neg hn]
theorem TF (r:Realm)(forum q:Int){f g:File}(h:SameF f g)(day:Int):mu r forum q g day=mu r forum q f day:=by
 obtain⟨h1,h2,h3,h4⟩:=h;unfold mu;rw[show({g with facts:=[]}:File)={f with facts:=[]} by rw[h1,h2,h3,h4]]
theorem ao2 {f g:File}(h:SameF f g):p6 g=p6 f:=by
 obtain⟨h1,h2,h3,h4⟩:=h;have e:tC g=tC f:=by funext a;unfold tC;rw[h1]
 unfold p6 kZ jY;rw[h4,h2,e,h1]
theorem amf (r:Realm)(forum:Int){f g:File}(h:SameF f g)(day:Int):yW r forum g day=yW r forum f day:=by
 have ha:=h.at_ day;unfold yW;rw[ha.signs,h.bill,ao2 ha,TF r forum 6 ha]
theorem apm {f g:File}(h:SameF f g)(sign day:Int):wx g sign day=wx f sign day:=by
 unfold wx;rw[h.signs,h.acts]
theorem apr {f g:File}(h:SameF f g)(sign:Int)(n:Nat):lg g sign n=lg f sign n:=by
 unfold lg;rw[h.alters,h.bill]
def dK (v:View)(g:File):View:={v with file:=g}
theorem am4 (r:Realm)(forum:Int){f g:File}(h:SameF f g)(day:Int):iT r forum g day=dK (iT r forum f day) (cO g day):=by
 have ha:=h.at_ day;unfold iT dK;rw[TF r forum 0 ha,amf r forum ha]
end Rm
namespace Rm
open Go Go.Proofs Cx
@[simp] theorem ayf:D.none.cells=[D.none]:=_root_.id rfl
end Rm
