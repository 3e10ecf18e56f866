/-
  Shared texts of this claim.
-/
import Derived.Test.YtefchokhgdmamaaGreatDoorMAP
set_option linter.defProp false
set_option linter.unusedSimpArgs false
set_option linter.unusedVariables false
open Go.IntKind (i64)
namespace Rm
open Go Go.Proofs Cx
def kp (n:Nat)(g:Nat->Bool):Int:=if(List.range n).findIdx g<n then((List.range n).findIdx g:Nat) else-1
def uC (n:Nat)(g:Nat->Bool):(kp n g=-1/\∀k,k<n->g k=false)\/∃k:Nat,k<n/\kp n g=k/\g k=true/\∀i,i<k->g i=false:=by
 unfold kp;split
 .rename_i h;refine .inr ⟨_,h,rfl,?_,λi hi=>?_⟩
  .have:=List.findIdx_getElem (p:=g) (xs:=List.range n) (w:=by simpa using h);simpa using this
  .have:=List.not_of_lt_findIdx (p:=g) (xs:=List.range n) hi;simpa using this
 .rename_i h;refine .inl ⟨rfl,λk hk=>?_⟩;have:=List.not_of_lt_findIdx (p:=g) (xs:=List.range n) (i:=k) (by omega);simpa using this
def BX {n:Nat}{g:Nat->Bool}(h:∀k,k<n->g k=false):kp n g=-1:=by
 rcases uC n g with⟨h1,_⟩|⟨k,hk,_,h2,_⟩
 .exact h1
 .rw[h k hk] at h2;cases h2
def FB {n k:Nat}{g:Nat->Bool}(hk:k<n)(h:g k=true)(hj:∀i,i<k->g i=false):kp n g=k:=by
 rcases uC n g with⟨_,h1⟩|⟨m,hm,h1,h2,h3⟩
 .rw[h1 k hk] at h;cases h
 .rcases Nat.lt_trichotomy m k with h4|h4|h4
  .rw[hj m h4] at h2;cases h2
  .rw[h1,h4]
  .rw[h3 k h4] at h;cases h
def abz (n:Nat)(g:Nat->Bool):decide (0<=kp n g)=(List.range n).any g:=by
 rcases uC n g with⟨h1,h2⟩|⟨m,hm,h1,h2,h3⟩
 .rw[h1]
  symm
  simp;exact h2
 .rw[h1];simp;exact⟨m,hm,h2⟩
def ahC (l:List Rule)(f:Nat)(caps:List D)(g:Nat->Bool)(hg:∀k (hk:k<l.length),au T f (tU l[k]::caps) (.bool (g k)))(hl:l.length<=4294967296):
 au T 109 [rules l,.clo f caps] (.int (kp l.length g)):=by
 refine zyv 31 awO ?_;simp[WG];refine .scan l.length (λk=>g k=false) (λk=>[.int 0,.int k]) (λ_=>[]) ?_ (λk hk hj ho=>?_) (λk hk hj ho=>?_) (λhj=>?_)
 .simp
 .have hw:=br hk hl;simp[Ut,GY,hk,hw];refine⟨_,_,⟨rfl,rfl⟩,_,hg k hk,?_⟩;simp[ho,hw]
 .have he:=FB hk (by simpa using ho) hj;simp[Ut,GY,hk,he];refine⟨_,_,⟨rfl,rfl⟩,_,hg k hk,?_⟩;simp[ho]
 .have he:=BX hj;simp[Ut,GY,he]
def ahD (l:List Int)(f:Nat)(caps:List D)(g:Nat->Bool)(hg:∀k (hk:k<l.length),au T f (.int l[k]::caps) (.bool (g k)))(hl:l.length<=4294967296):
 au T 141 [ints l,.clo f caps] (.int (kp l.length g)):=by
 refine zyv 26 awP ?_;simp[WH];refine .scan l.length (λk=>g k=false) (λk=>[.int 0,.int k]) (λ_=>[]) ?_ (λk hk hj ho=>?_) (λk hk hj ho=>?_) (λhj=>?_)
 .simp
 .have hw:=br hk hl;simp[Uu,GZ,hk,hw,ints];refine⟨_,_,⟨rfl,rfl⟩,_,hg k hk,?_⟩;simp[ho,hw]
 .have he:=FB hk (by simpa using ho) hj;simp[Uu,GZ,hk,he,ints];refine⟨_,_,⟨rfl,rfl⟩,_,hg k hk,?_⟩;simp[ho]
 .have he:=BX hj;simp[Uu,GZ,he,ints]
def ahB (l:List Alter)(f:Nat)(caps:List D)(g:Nat->Bool)(hg:∀k (hk:k<l.length),au T f (qv l[k]::caps) (.bool (g k)))(hl:l.length<=4294967296):
 au T 140 [alters l,.clo f caps] (.int (kp l.length g)):=by
 refine zyv 14 awM ?_;simp[WD];refine .scan l.length (λk=>g k=false) (λk=>[.int 0,.int k]) (λ_=>[]) ?_ (λk hk hj ho=>?_) (λk hk hj ho=>?_) (λhj=>?_)
 .simp
 .have hw:=br hk hl;simp[Ur,GW,hk,hw];refine⟨_,_,⟨rfl,rfl⟩,_,hg k hk,?_⟩;simp[ho,hw]
 .have he:=FB hk (by simpa using ho) hj;simp[Ur,GW,hk,he];refine⟨_,_,⟨rfl,rfl⟩,_,hg k hk,?_⟩;simp[ho]
 .have he:=BX hj;simp[Ur,GW,he]
def ahz (l:List Int)(f:Nat)(caps:List D)(g:Nat->Bool)(hg:∀k (hk:k<l.length),au T f (.int l[k]::caps) (.bool (g k)))(hl:l.length<=4294967296):
 au T 129 [ints l,.clo f caps] (.bool ((List.range l.length).any g)):=by
 refine zyv 25 awJ ?_;simp[WA];refine⟨_,ahD l f caps g hg hl,?_⟩;have:=abz l.length g;simp[<-this]
def ahy (l:List Alter)(f:Nat)(caps:List D)(g:Nat->Bool)(hg:∀k (hk:k<l.length),au T f (qv l[k]::caps) (.bool (g k)))(hl:l.length<=4294967296):
 au T 124 [alters l,.clo f caps] (.bool ((List.range l.length).any g)):=by
 refine zyv 13 awI ?_;simp[Wz];refine⟨_,ahB l f caps g hg hl,?_⟩;have:=abz l.length g;simp[<-this]
def tW (cs:List Cell)(t:Tm):Cell:=if(kF t).2=0 then aZ 8 cs t else dj
def Yz {t:Tm}(h:(kF t).2=0):bk 8 t<=60/\bq 8 t=((kF t).1,0):=by
 unfold kF at h ⊢;split at h
 .cases h
 .rename_i hm;rw[if_neg hm];exact⟨by omega,by rw[<-h]⟩
def auF (t:Tm)(cs:List Cell)(ht:t.OK):au T 86 [dB t,cells cs] (cu (tW cs t)):=by
 refine zyv 39 awT ?_;simp[WL,tW];refine⟨_,agt t ht,?_⟩;by_cases h:(kF t).2=0
 .obtain⟨h1,h2⟩:=Yz h;simp[h];refine⟨_,agv 8 cs t _ ht h1 h2,?_⟩;simp
  try rfl
 .simp[h]
  try rfl
def q7:List Int:=[6,7,10,12,13,14,15,16,20,21]
def fP (ask:Int):Int×Bool:=if ask<0\/22<=ask then(0,false) else if hasB q7 ask then(0,true) else(1,true)
def SS (ask:Int):au T 82 [.int ask] (.tup [.int (fP ask).1,.bool (fP ask).2]):=by
 refine zyv 19 avg ?_;simp[Vm,fP];by_cases h0:ask<0
 .simp[h0]
 by_cases h1:22<=ask
 .simp[h0,h1]
 simp[h0,h1];refine⟨_,HH q7 ask (by decide),?_⟩;cases h:hasB q7 ask<;>simp[h]
def LG:Tm:=⟨0,0,[]⟩
def m9 (o:Order)(ask:Int)(k:Nat):Bool:=decide ((o.rules.getD k default).ask=ask)
def xb (o:Order)(i:Int):Tm:=(o.rules.getD i.toNat default).term
def findF (o:Order)(ask:Int):Tm×Int:=
 if(fP ask).2=false then(LG,1) else if kp o.rules.length (m9 o ask)<0 then(LG,4) else
    if(kF (xb o (kp o.rules.length (m9 o ask)))).2≠0\/(kF (xb o (kp o.rules.length (m9 o ask)))).1≠(fP ask).1 then(LG,11) else(xb o (kp o.rules.length (m9 o ask)),0)
def M4 {o:Order}(ho:o.OK){m:Nat}(hm:m<o.rules.length):o.rules[m].term.OK:=(ho.2.2 _ (cY hm)).2
def R6:LG.OK:=by
 exact .mk 0 0 [] (by unfold aX;omega) (by unfold aX;omega) (by decide) (λ_ h=>by cases h)
def akC {o:Order}(ho:o.OK)(ask:Int):(findF o ask).1.OK:=by
 unfold findF;split
 .exact R6
 split
 .exact R6
 split
 .exact R6
 .rename_i h _;rcases uC o.rules.length (m9 o ask) with⟨h1,h2⟩|⟨m,hm,h1,h2,h3⟩
  .exact absurd (by rw[h1];decide) h
  .rw[h1];simp[xb,hm];exact M4 ho hm
def akA (r:Rule)(ask:Int):au T 110 [tU r,.ref (.int ask)] (.bool (decide (r.ask=ask))):=by
 refine zyv 30 avh ?_;simp[Vo]
def ar6 (o:Order)(ask:Int)(ho:o.OK)(hl:o.rules.length<=4294967296):au T 85 [jC o,.int ask] (.tup [dB (findF o ask).1,.int (findF o ask).2]):=by
 refine zyv 29 avi ?_;simp[Vn,findF];refine⟨_,SS ask,?_⟩;cases h0:(fP ask).2
 .simp[h0]
  try rfl
 simp[h0];refine⟨_,ahC o.rules 110 [.ref (.int ask)] (m9 o ask) (λk hk=>by simpa [m9,hk] using akA o.rules[k] ask) hl,?_⟩;rcases uC o.rules.length (m9 o ask) with⟨h1,h2⟩|⟨m,hm,h1,h2,h3⟩
 .rw[h1];simp
  try rfl
 .rw[h1];have yD:¬((m:Int)<0):=by omega
  have Fl:o.rules[m].term.OK:=M4 ho hm;simp[hm,xb,yD];refine⟨_,agt _ Fl,?_⟩;by_cases h4:(kF o.rules[m].term).2=0<;>by_cases h5:(kF o.rules[m].term).1=(fP ask).1<;>simp[h4,h5]<;>try rfl
def pk (o:Order)(ask:Int)(cs:List Cell):Cell×Int:=
 if(findF o ask).2≠0 then(dj,(findF o ask).2) else
    (if(fP ask).1=0/\(tW cs (findF o ask).1).known=true then⟨true,min (max (tW cs (findF o ask).1).n 0) 20000⟩ else tW cs (findF o ask).1,0)
def ar5 (o:Order)(ask:Int)(cs:List Cell)(ho:o.OK)(hl:o.rules.length<=4294967296):au T 64 [jC o,.int ask,cells cs] (.tup [cu (pk o ask cs).1,.int (pk o ask cs).2]):=by
 refine zyv 28 avf ?_;simp[Vl];refine⟨_,ar6 o ask ho hl,?_⟩;have hf:(findF o ask).1.OK:=akC ho ask;by_cases h:(findF o ask).2=0
 .simp[h,pk];refine⟨_,auF _ cs hf,_,SS ask,?_⟩;generalize tW cs (findF o ask).1=c;obtain⟨kn,n⟩:=c;by_cases h1:(fP ask).1=0
  .cases kn
   .simp[h1,cu]
   .by_cases h2:n<0
    .have:min (max n 0) 20000=0:=by omega
     simp[h1,cu,h2,this];rfl
    .by_cases h3:20000<n
     .have:min (max n 0) 20000=20000:=by omega
      simp[h1,cu,h2,h3,this];rfl
     .have:min (max n 0) 20000=n:=by omega
      simp[h1,cu,h2,h3,this];rfl
  .simp[h1,cu]
 .simp[h,pk]
  try rfl
def afL (b:Bool):au T 126 [.bool b] (cu (fD b)):=by
 refine zyv 17 awF ?_;cases b<;>simp[Ww,fD]<;>rfl
def mF (kind sign:Int)(x:Fact):Bool:=decide (x.kind=kind)&&decide (x.at_=sign)
def jD (f:File)(kind sign:Int):Cell:=match f.facts.find? (mF kind sign) with|none=>dj|some x=>fD (decide (x.n≠0))
def ya {α:Type}{p:α->Bool}:∀{l:List α} {k:Nat} (hk:k<l.length),p l[k]=true->(∀j (hj:j<k),p (l[j]'(by omega))=false)->l.find? p=some l[k]
 |a::l,0,hk,h,hj=>by simp at h;simp[h]
 |a::l,k+1,hk,h,hj=>by
  have h0:=hj 0 (by omega);simp at h0;simp only[NU,h0,List.getElem_cons_succ];exact ya (by simpa using hk) (by simpa using h) (λj bh=>by simpa using hj (j+1) (by omega))
def Ec {α:Type}{p:α->Bool}{l:List α}(h:∀j (hj:j<l.length),p l[j]=false):l.find? p=none:=by
 rw[qk];intro x hx;obtain⟨j,hj,rfl⟩:=gn hx;rw[h j hj];decide
def G7 (f:File)(kind sign:Int)(hl:f.facts.length<=4294967296):au T 127 [cr f,.int kind,.int sign] (cu (jD f kind sign)):=by
 refine zyv 18 awC ?_;simp[Wu];refine .scan f.facts.length (λk=>mF kind sign (f.facts.getD k default)=false) (λk=>[.int k]) (λ_=>[cu dj]) ?_ (λk hk hj ho=>?_) (λk hk hj ho=>?_) (λhj=>?_)
 .simp
 .have hw:=br hk hl;simp[hk,mF] at ho;by_cases h1:f.facts[k].kind=kind<;>by_cases h2:f.facts[k].at_=sign
  .exact absurd h2 (ho h1)
  all_goals simp[Uo,GV,hk,hw,h1,h2]
 .have hw:=br hk hl;have hf:jD f kind sign=fD (decide (f.facts[k].n≠0)):=by
   unfold jD;rw[ya hk (by simpa [hk] using ho) (λj bh=>by have:=hj j bh;simpa [show j<f.facts.length by omega] using this)]
  simp[hk,mF] at ho;simp[Uo,GV,hk,hw,ho,hf];refine⟨_,afL _,?_⟩;simp
  try rfl
 .have hf:jD f kind sign=dj:=by
   unfold jD;rw[Ec (λj bh=>by have:=hj j bh;simpa [bh] using this)]
  simp[Uo,GV,hf]
  try rfl
def eG (r:Realm)(c:Int):Int:=if aJ c r.cities.length=true then(r.cities.getD c.toNat default).order else-1
def sU (r:Realm)(c:Int):au T 106 [bB r,.int c] (.int (eG r c)):=by
 refine zyv 15 awp ?_;simp[Wh,eG];refine⟨_,gT c r.cities.length,?_⟩;cases h:aJ c r.cities.length
 .simp[h]
 .simp[aJ] at h;have h1:c.toNat<r.cities.length:=by omega
  simp[h,h1]
def Hs (day:Int)(l:List Sign):List Sign:=l.takeWhile λs=>decide (s.day<=day)
def Xk (day:Int)(l:List Act):List Act:=l.takeWhile λs=>decide (s.day<=day)
def j3 (n:Nat)(a:Alter):Bool:=decide (a.at_<=(n:Int))
def kH (n:Nat)(x:Fact):Bool:=aJ x.at_ n
def gH (f:File)(day:Int):File:=
 ⟨f.bill,Hs day f.signs,f.alters.filter (j3 (Hs day f.signs).length),Xk day f.acts,f.facts.filter (kH (Hs day f.signs).length)⟩
def zB {α:Type}(p:α->Bool):∀(l:List α),∃m,m<=l.length/\l.takeWhile p=l.take m/\(∀k (hk:k<l.length),k<m->p l[k]=true)/\(∀hk:m<l.length,p l[m]=false)
 |[]=>⟨0,by simp,by simp,λk hk=>by simp at hk,λhk=>by simp at hk⟩
 |a::l=>by
  by_cases h:p a=true
  .obtain⟨m,h1,h2,h3,h4⟩:=zB p l;refine⟨m+1,by simp;omega,by simp[h,h2],λk hk hm=>?_,λhk=>?_⟩
   .cases k with
    |zero=>simpa using h
    |succ k=>simpa using h3 k (by simpa using hk) (by omega)
   .simpa using h4 (by simpa using hk)
  .refine⟨0,by simp,by simp[h],λk hk hm=>by omega,λhk=>by simpa using h⟩
def Nn {α:Type}(p:α->Bool)(l:List α){k:Nat}(hk:k<l.length):(l.take (k+1)).filter p=(l.take k).filter p++if p l[k] then[l[k]] else[]:=by
 rw[ql hk,Dh]
 congr 1
 cases h:p l[k]<;>simp[h]
def np (b:Bill)(w x y z:D):D:=.agg [.int b.drawer,.int b.drawee,.int b.payee,.int b.sum,.int b.currency,.int b.tenor.kind,.int b.tenor.n,.int b.tenor.unit,.int b.day,.int b.city,.int b.pay,.int b.need,.int b.rate,.int b.flags,.int b.parts,w,x,y,z]
@[simp] def azU (b:Bill)(w x y z:D):D.agg (eh (np b w x y z).cells 16 [D.none])=np b w .none y z:=zyy
@[simp] def azV (b:Bill)(w x y z:D):D.agg (eh (np b w x y z).cells 18 [D.none])=np b w x y .none:=zyy
def mU {α:Type}(l:List α):D:=match l with|[]=>.list []|_=>.none
@[simp] def aCf {α:Type}:mU ([]:List α)=.list []:=rfl
@[simp] def aaN {α:Type}(l:List α)(x:α):mU (l++[x])=.none:=by cases l<;>rfl
def atA (f:File)(day:Int)(h1:f.signs.length<=4294967295)(h2:f.acts.length<=4294967295)(h3:f.alters.length<=4294967295)(h4:f.facts.length<=4294967295):au T 103 [cr f,.int day] (cr (gH f day)):=by
 refine zyv 9 awB ?_;simp[Wt];obtain⟨m,hm,hS,Kk,vO⟩:=zB (λs:Sign=>decide (s.day<=day)) f.signs;obtain⟨n,hn,hA,P2,P3⟩:=zB (λs:Act=>decide (s.day<=day)) f.acts;refine aP.forRounds m (λk=>[.int k]) (λk=>[signs (f.signs.take k),np f.bill (mU (f.signs.take k)) (.list []) (.list []) (.list [])]) ?_ (λk hk=>?_) ?_
 .simp[np,signs]
  try rfl
 .have bM:k<f.signs.length:=by omega
  have hw:=br bM (by omega);have hd:=Kk k bM hk;simp at hd;have fI:¬day<f.signs[k].day:=by omega
  have hle:(k:Int)+1<=4294967296:=by omega
  have ht:=ql bM;rw[ht];have hlen:(f.signs.take k).length=k:=by simp;omega
  generalize f.signs.take k=A at*;simp[Uk,GQ,bM,hw,fI,hlen];exact⟨hle,by simp[signs],rfl⟩
 have hSl:(f.signs.take m).length<=4294967295:=by rw[dv];omega
 have P4:gH f day=⟨f.bill,f.signs.take m,f.alters.filter (j3 (f.signs.take m).length),f.acts.take n,f.facts.filter (kH (f.signs.take m).length)⟩:=by
  unfold gH Hs Xk;rw[hS,hA]
 rw[P4];generalize f.signs.take m=S at*;have Bn:(f.acts.take n).length<=4294967295:=by rw[dv];omega
 by_cases dM:m<f.signs.length
 case' pos=>
  have hd:=vO dM;simp at hd;simp[Uk,GQ,dM,hd];generalize D.bool true=bb
 case' neg=>
  have yB:m=f.signs.length:=by omega
  simp[Uk,GQ,dM,yB];generalize D.bool false=bb
 all_goals
  refine aP.forRounds n (λk=>[.int k]) (λk=>[acts (f.acts.take k),np f.bill (mU S) (.list []) (mU (f.acts.take k)) (.list [])]) ?_ (λk hk=>?_) ?_
  .simp[acts]
  .have bM:k<f.acts.length:=by omega
   have hw:=br bM (by omega);have hd:=P2 k bM hk;simp at hd;have fI:¬day<f.acts[k].day:=by omega
   have hle:(k:Int)+1<=4294967296:=by omega
   have ht:=ql bM;rw[ht];have hlen:(f.acts.take k).length=k:=by simp;omega
   generalize f.acts.take k=A at*;simp[Ul,GR,bM,hw,fI,hlen];exact⟨hle,by simp[acts],rfl⟩
  generalize f.acts.take n=A at*;by_cases ir:n<f.acts.length
  case' pos=>
   have hd:=P3 ir;simp at hd;simp[Ul,GR,ir,hd];generalize D.bool true=bc
  case' neg=>
   have qM:n=f.acts.length:=by omega
   simp[Ul,GR,ir,qM];generalize D.bool false=bc
  all_goals
   refine aP.forRounds f.alters.length (λk=>[.int k]) (λk=>[np f.bill (mU S) (mU ((f.alters.take k).filter (j3 S.length))) (mU A) (.list []),alters ((f.alters.take k).filter (j3 S.length))]) ?_ (λk hk=>?_) ?_
   .simp[alters]
   .have hw:=br hk (by omega);have ht:=Nn (j3 S.length) f.alters hk;rw[ht];have hlen:((f.alters.take k).filter (j3 S.length)).length<=k:=cn (Dj _ _) (by simp;omega);generalize (f.alters.take k).filter (j3 S.length)=B at*;by_cases hd:f.alters[k].at_<=(S.length:Int)
    .simp[Um,GS,j3,hk,hw,hd];exact⟨by omega,rfl,by simp[alters]⟩
    .simp[Um,GS,j3,hk,hw,hd]
   simp[Um,GS];generalize f.alters.filter (j3 S.length)=B at*;refine aP.forRounds f.facts.length (λk=>[.int k]) (λk=>[np f.bill (mU S) (mU B) (mU A) (mU ((f.facts.take k).filter (kH S.length))),facts ((f.facts.take k).filter (kH S.length))]) ?_ (λk hk=>?_) ?_
   .simp[facts]
   .have hw:=br hk (by omega);have ht:=Nn (kH S.length) f.facts hk;rw[ht];have hlen:((f.facts.take k).filter (kH S.length)).length<=k:=cn (Dj _ _) (by simp;omega);generalize (f.facts.take k).filter (kH S.length)=C at*;cases hd:aJ f.facts[k].at_ S.length
    .simp[Un,GU,kH,hk,hw,hd];refine⟨_,ry _ _,?_⟩;simp[hd,hw]
    .simp[Un,GU,kH,hk,hw,hd];refine⟨_,ry _ _,?_⟩;simp[hd,hw];exact⟨by omega,rfl,by simp[facts]⟩
   simp[Un,GU];rfl
def jc (g:Nat->Cell):D:=.list ((List.range 20).map λi=>cu (g i))
def Yw {g g':Nat->Cell}(h:∀i,i<20->g i=g' i):jc g=jc g':=by
 unfold jc
 congr 1
 exact zP λi hi=>by rw[h i (by simpa using hi)]
def Yx (g:Nat->Cell)(k:Nat)(c:Cell):D.list ((jc g).l.set k (cu c))=jc (λi=>if i=k then c else g i):=by
 unfold jc
 congr 1
 show((List.range 20).map λi=>cu (g i)).set k (cu c)=_;apply HO
 .simp
 .intro i h1 h2;simp at h2;rw[List.getElem_set];by_cases h:k=i
  .simp[h]
  .have h':¬i=k:=λe=>h e.symm;simp[h,h']
@[simp] def aAm (g:Nat->Cell):(jc g).l.length=20:=by
  show((List.range 20).map λi=>cu (g i)).length=20;simp
def Ik (g:Nat->Cell){k:Nat}(hk:k<20):(jc g).l[k]?.getD D.none=cu (g k):=by
 show((List.range 20).map λi=>cu (g i))[k]?.getD D.none=cu (g k);simp[hk]
def aiQ (g:Nat->Cell){k:Nat}(hk:k<(jc g).l.length):(jc g).l[k]=cu (g k):=by
 have h:=Ik g (k:=k) (by simpa using hk);rw[bE hk] at h;exact h
def aiS (g:Nat->Cell)(k:Nat)(c:Cell):(jc g).l.set k (cu c)=(jc (λi=>if i=k then c else g i)).l:=congrArg D.l (Yx g k c)
def aiR (g:Nat->Cell):D.list (jc g).l=jc g:=rfl
@[simp] def aDF (x:Cell)(b:Bool)(n:Int):va (cu x) 0 (D.agg [D.bool b,D.int n])=cu ⟨b,n⟩:=zyy
def Bc {α:Type}(l:List (Int×α))(val:α->Cell)(g0:Nat->Cell)(i:Nat):Cell:=match l.find? (λp=>decide (p.1=(i:Int))) with|some p=>val p.2|none=>g0 i
def sG {α:Type}(enc:α->D)(p:Int×α):D:=.tup [.int p.1,enc p.2]
def acb {α:Type}{J o:Nat}{ps dF:List Nat}{a:PC}{O:Env}{Q:Out->Prop}(l:List (Int×α))(enc:α->D)(val:α->Cell)(g0:Nat->Cell)
 (nd:∀p q,p∈l->q∈l->p.1=q.1->p=q) (UG:∀p,p∈l->0<=p.1) (he:O.o J=.tup [.list [],.map (l.map λp=>(.int p.1,enc p.2))]) (h0:O.o o=jc g0)
 (step:∀p,p∈l->∀g done,aL T (u6 [o] a) ((O.put ps (dF.map (sG enc p).tget) [o] [jc g]).setO J (.tup [.list (done++[sG enc p]),.map (l.map λp=>(.int p.1,enc p.2))])) (λy=>∃O',y=.next O'/\O'.o o=.list ((jc g).l.set p.1.toNat (cu (val p.2)))))
 (last:Q (.next (O.put [] [] [o] [jc (Bc l val g0)]))):aP T (.meach J ps dF [o] a) O Q:=by
 have oE:jt (.map (l.map λp=>((D.int p.1,enc p.2):D×D)))=l.map (sG enc):=by
  simp[jt,sG]
 refine .meachR _ he (λdone vo=>∃g:Nat->Cell,vo=[jc g]/\(∀p,p∈l->sG enc p∈done->g p.1.toNat=val p.2)/\∀i:Nat,(∀p,p∈l->sG enc p∈done->p.1≠i)->g i=g0 i) ⟨g0,by simp[h0],(λp _ h=>by cases h),λi _=>rfl⟩ (λdone x rest vo hp ⟨g,hv,qG,dx⟩=>?_) ⟨_,λdone hp vo ⟨g,hv,qG,dx⟩=>?_,last⟩
 .subst hv;rw[oE] at hp;have hx:x∈l.map (sG enc):=hp.subset (by simp);obtain⟨p,dO,rfl⟩:=dX.mp hx;refine zT _ (λy ⟨O',e,ho⟩=>⟨O',e,λi=>if i=p.1.toNat then val p.2 else g i,by simp[ho,Yx],λq hq Q7=>?_,λi hi=>?_⟩) (step p dO g done)
  .have Q8:=UG q hq;have qP:=UG p dO;by_cases h:q.1=p.1
   .rw[nd q p hq dO h];simp
   .show(if q.1.toNat=p.1.toNat then val p.2 else g q.1.toNat)=val q.2;rw[if_neg (by omega)];rcases dm.mp Q7 with h1|h1
    .exact qG q hq h1
    .simp[sG] at h1;exact absurd h1.1 h
  .have qP:=UG p dO;have cN:=hi p dO (by simp);show(if i=p.1.toNat then val p.2 else g i)=g0 i;rw[if_neg (by omega)];exact dx i λq hq Q7=>hi q hq (by simp[Q7])
 .rw[hv,oE] at*
  congr 1
  refine Yw λi hi=>?_;unfold Bc;cases hf:l.find? (λp=>decide (p.1=(i:Int))) with
  |some p=>
   have dO:=rI hf;have K4:p.1=(i:Int):=by simpa using HP hf
   have:=qG p dO (hp.symm.subset (List.mem_map_of_mem dO));simp only;rw[<-this,K4];rfl
  |none=>
   refine dx i λp dO _=>?_;have:=qk.mp hf p dO;simpa using this
@[simp] def aCA (a b:Int):fA (D.int a) (D.int b)=decide (a=b):=by
  show((a==b)&&true)=decide (a=b);rw[Bool.and_true];by_cases h:a=b<;>simp[h]
def vK (n k:Int):Bool:=decide (cJ .and .i64 n k≠0)
def wB (s:Sign)(due:Int):Int:=if due=-1 then 0 else s.day-due
def Oh (f:File)(sign:Int):Bool:=(List.range f.alters.length).any λk=>decide ((f.alters.getD k default).at_<=sign)
def mT (c:Case):Int:=if c.holder<0 then 0 else c.holder
def sW (c:Case)(s:Sign):List (Int×Int):=[(0,c.file.bill.sum),(1,c.file.bill.parts),(2,c.file.bill.tenor.kind),(3,c.file.bill.rate),(4,s.kind),(5,c.defence),(6,wB s c.due)]
def sX (r:Realm)(c:Case)(s:Sign):List (Int×Bool):=[(7,vK c.file.bill.flags 1),(8,decide (c.file.bill.payee=-1)),(9,vK c.file.bill.flags 4),(10,vK c.file.bill.flags 2),(11,decide (eG r c.file.bill.city≠eG r c.file.bill.pay)),(12,Oh c.file c.sign),(13,vK s.flags 1),(14,decide (0<wB s c.due))]
def Bj (r:Realm)(c:Case)(s:Sign):List Cell:=
 (sW c s).map (λp=>⟨true,p.2⟩)++(sX r c s).map (λp=>fD p.2)++
    [jD c.file 0 c.sign,jD c.file 1 c.sign,jD c.file 2 c.sign,jD c.file 3 (mT c),jD c.file 4 (mT c)]
@[simp] def azZ (x:Case):nq 19 (cq x)=cr x.file:=zyy
@[simp] def azX (x:Case):nq 15 (cq x)=gV x.file.bill:=zyy
@[simp] def azY (x:File):nq 15 (cr x)=gV x.bill:=zyy
def oe (c:Case):Bool:=aJ c.sign c.file.signs.length&&decide (-1<=c.holder)&&decide (mT c<c.file.signs.length)&&(decide (c.due=-1)||aJ c.due 100001)
def eR (r:Realm)(c:Case):List Cell:=if oe c=true/\aJ (c.file.signs.getD c.sign.toNat default).day 100001=true then Bj r c (c.file.signs.getD c.sign.toNat default) else[]
def atC (r:Realm)(c:Case)(h2:c.file.facts.length<=100000)(h3:c.file.alters.length<=100000):au T 104 [bB r,cq c] (cells (eR r c)):=by
 refine zyv 11 awE ?_;cases hs:aJ c.sign c.file.signs.length
 .have hv:eR r c=[]:=by unfold eR oe;rw[hs];simp
  rw[hv];simp[xo];refine⟨_,ry _ _,?_⟩;simp[hs];rfl
 by_cases hh:c.holder< -1
 .have hv:eR r c=[]:=by unfold eR oe;rw[hs];simp;intros;omega
  rw[hv];simp[xo,hh];exact⟨⟨_,ry _ _⟩,rfl⟩
 by_cases hm:(c.file.signs.length:Int)<=mT c
 .have hv:eR r c=[]:=by unfold eR oe;rw[hs];simp;intros;omega
  rw[hv];unfold mT at hm;simp[xo,hm];exact⟨⟨_,ry _ _⟩,rfl⟩
 by_cases hd:c.due≠-1/\aJ c.due 100001=false
 .have hv:eR r c=[]:=by unfold eR oe;rw[hs];simp[hd]
  rw[hv];unfold mT at hm;obtain⟨bm,dZ⟩:=hd;simp[xo,hh,hm,bm];refine⟨_,ry _ _,?_⟩;simp[hs,hh,hm,bm];refine⟨_,ry _ _,?_⟩;simp[hs,hh,hm,bm,dZ];rfl
 have hcb:oe c=true:=by
  unfold oe;rw[hs];simp;refine⟨⟨by omega,by omega⟩,?_⟩;by_cases h:c.due=-1
  .exact .inl h
  .right;cases hb:aJ c.due 100001
   .exact absurd ⟨h,hb⟩ hd
   .rfl
 have hlen:c.sign.toNat<c.file.signs.length:=by simp[aJ] at hs;omega
 have fe:0<=c.sign/\c.sign<(c.file.signs.length:Int):=by simpa [aJ] using hs
 obtain⟨s,dE⟩:∃s:Sign,s=c.file.signs[c.sign.toNat]:=⟨_,rfl⟩
 have kj:c.file.signs.getD c.sign.toNat default=s:=by rw[dE];simp[hlen]
 have hv:eR r c=if aJ s.day 100001=true then Bj r c s else[]:=by
  unfold eR;rw[kj,hcb];simp
 rw[hv];unfold mT at hm;by_cases EH:c.due=-1
 case' pos=>
  have aad:(c.due=-1)=True:=eq_true EH;simp[xo,hh,hm,aad];refine⟨_,ry _ _,?_⟩;simp[hs,hh,hm,aad,hlen,<-dE,fe]
 case' neg=>
  have EE:aJ c.due 100001=true:=by
   cases hb:aJ c.due 100001
   .exact absurd ⟨EH,hb⟩ hd
   .rfl
  simp[xo,hh,hm,EH];refine⟨_,ry _ _,?_⟩;simp[hs,hh,hm,EH];refine⟨_,ry _ _,?_⟩;simp[hs,hh,hm,EH,EE,hlen,<-dE,fe]
 all_goals
  refine⟨_,ry _ _,?_⟩;cases Kz:aJ s.day 100001
  .simp[Kz];rfl
  simp[Kz,ml];refine acb (sW c s) D.int (λn=>⟨true,n⟩) (λ_=>dj) ?_ ?_ ?_ ?_ (λp hp g done=>?_) ?_
  .intro p q hp hq h;simp[sW] at hp hq;rcases hp with rfl|rfl|rfl|rfl|rfl|rfl|rfl<;>rcases hq with rfl|rfl|rfl|rfl|rfl|rfl|rfl<;>first|rfl|(simp at h)
  .intro p hp;simp[sW] at hp;rcases hp with rfl|rfl|rfl|rfl|rfl|rfl|rfl<;>simp
  .have BC:(if c.due=-1 then(0:Int) else i64.wrap (s.day-c.due))=wB s c.due:=by
        unfold wB;by_cases h:c.due=-1
        .simp[h]
        .have EE:aJ c.due 100001=true:=by
          cases hb:aJ c.due 100001
          .exact absurd ⟨h,hb⟩ hd
          .rfl
         simp[aJ] at EE Kz;rw[if_neg h,if_neg h];exact bu (by omega)
   simp[sW,ml,hlen,<-dE];rw[<-BC];by_cases h:c.due=-1<;>simp[h]
  .simp[jc];rfl
  .have hr:0<=p.1/\p.1<20:=by
        simp[sW] at hp;rcases hp with rfl|rfl|rfl|rfl|rfl|rfl|rfl<;>simp
   have hk:p.1.toNat<20:=by omega
   simp[atr,Up,sG,Ik g hk];exact hr
  have anK:∀k (hk:k<c.file.alters.length),au T 125 (qv c.file.alters[k]::[.ref (cq c)]) (.bool (decide ((c.file.alters.getD k default).at_<=c.sign))):=λk hk=>by
   refine zyv 12 awD ?_;simp[Wv,hk]
  simp;refine⟨_,ahy c.file.alters _ _ _ anK (by omega),_,sU r _,_,sU r _,?_⟩;have BC:(if c.due=-1 then(0:Int) else i64.wrap (s.day-c.due))=wB s c.due:=by
   unfold wB;by_cases h:c.due=-1
   .simp[h]
   .have EE:aJ c.due 100001=true:=by
     cases hb:aJ c.due 100001
     .exact absurd ⟨h,hb⟩ hd
     .rfl
    simp[aJ] at EE Kz;rw[if_neg h,if_neg h];exact bu (by omega)
  have Qs:cells (Bj r c s)=jc (λi=>if i=15 then jD c.file 0 c.sign else if i=16 then jD c.file 1 c.sign else if i=17 then jD c.file 2 c.sign else if i=18 then jD c.file 3 (mT c) else if i=19 then jD c.file 4 (mT c) else Bc (sX r c s) fD (Bc (sW c s) (λn=>⟨true,n⟩) (λ_=>dj)) i):=by
   rfl
  generalize Bc (sW c s) (λn=>(⟨true,n⟩:Cell)) (λ_=>dj)=g1 at*;refine acb (sX r c s) D.bool fD g1 ?_ ?_ ?_ ?_ (λp hp g done=>?_) ?_
  .intro p q hp hq h;simp[sX] at hp hq;rcases hp with rfl|rfl|rfl|rfl|rfl|rfl|rfl|rfl<;>rcases hq with rfl|rfl|rfl|rfl|rfl|rfl|rfl|rfl<;>first|rfl|(simp at h)
  .intro p hp;simp[sX] at hp;rcases hp with rfl|rfl|rfl|rfl|rfl|rfl|rfl|rfl<;>simp
  .simp[sX,ml,hlen,<-dE,vK];rw[<-BC];by_cases h:c.due=-1<;>simp[h,Oh]
  .simp
  .have hr:0<=p.1/\p.1<20:=by
        simp[sX] at hp;rcases hp with rfl|rfl|rfl|rfl|rfl|rfl|rfl|rfl<;>simp
   have hk:p.1.toNat<20:=by omega
   simp[ats,Uq,sG,Ik g hk];refine⟨_,afL _,?_⟩;simp[Ik g hk];exact hr
  simp;generalize Bc (sX r c s) fD g1=g2 at*;have yp:(if c.holder<0 then D.int 0 else D.int c.holder)=D.int (mT c):=by
   unfold mT;split<;>rfl
  rw[yp];refine⟨_,G7 _ _ _ (by omega),_,G7 _ _ _ (by omega),_,G7 _ _ _ (by omega),_,G7 _ _ _ (by omega),_,G7 _ _ _ (by omega),?_⟩;rw[Qs];simp only[aiQ,aut,aiS,aiR];refine Yw λi hi=>?_;by_cases mG:i=15
  .subst mG;simp
  by_cases Kb:i=16
  .subst Kb;simp
  by_cases ub:i=17
  .subst ub;simp
  by_cases se:i=18
  .subst se;simp
  by_cases Kc:i=19
  .subst Kc;simp
  simp[mG,Kb,ub,se,Kc]
def FV (n:Nat)(x:Int):Bool:=decide (x<0)||decide ((n:Int)<=x)
def j6 (r:Realm)(a q:Int)(l:List Int):Bool:=
 !(decide (a<0)||decide ((r.orders.length:Int)<=a)||decide (q<0)||decide (22<=q)||decide (l.length≠5))&& !((List.range l.length).any λk=>FV r.orders.length (l.getD k 0))
def akD (x n:Int):au T 130 [.int x,.ref (.int n)] (.bool (decide (x<0)||decide (n<=x))):=by
 refine zyv 24 au8 ?_;by_cases h:x<0<;>simp[Vf,h]
def Zj (r:Realm)(a q:Int)(l:List Int)(hl:l.length<=100000):au T 107 [bB r,.int a,.int q,ints l] (.bool (j6 r a q l)):=by
 refine zyv 23 au9 ?_;by_cases h1:a<0
 .simp[xl,j6,h1]
 by_cases h2:(r.orders.length:Int)<=a
 .simp[xl,j6,h1,h2]
 by_cases h3:q<0
 .simp[xl,j6,h1,h2,h3]
 by_cases h4:22<=q
 .simp[xl,j6,h1,h2,h3,h4]
 by_cases h5:(l.length:Int)=5
 .have Bm:l.length=5:=by omega
  simp[xl,h1,h2,h3,h4,Bm];refine⟨_,ahz l 130 [.ref (.int r.orders.length)] (λk=>FV r.orders.length (l.getD k 0)) (λk hk=>by simpa [FV,hk] using akD l[k] r.orders.length) (by omega),?_⟩;simp only[j6,Bm];simp[h1,h2,h3,h4]
 .have Bm:¬l.length=5:=by omega
  simp[xl,j6,h1,h2,h3,h4,Bm];intro h;omega
def Bd {r:Realm}{a q:Int}{l:List Int}(h:j6 r a q l=true):(0<=a/\a<r.orders.length)/\l.length=5/\(∀x,x∈l->0<=x/\x<r.orders.length)/\∀b:Int,0<=b->b<r.orders.length->j6 r b q l=true:=by
 unfold j6 at h ⊢;rw[aq] at h;obtain⟨h1,h2⟩:=h;simp at h1;refine⟨by omega,h1.2,λx hx=>?_,λb cH bC=>?_⟩
 .obtain⟨k,hk,rfl⟩:=gn hx;simp[FV] at h2;have:=h2 k hk;simp[hk] at this;omega
 .rw[h2];simp;omega
def xB (r:Realm):Prop:=∀o,o∈r.orders->o.choices.length<=100000/\∀ch,ch∈o.choices->0<=ch.by_/\ch.by_<5
def mV (q:Int)(ch:Choice):Bool:=decide (ch.ask=q)&&decide (ch.by_≠0)
def jR (r:Realm)(a:Int):Order:=r.orders.getD a.toNat default
def fM (r:Realm)(a q:Int)(l:List Int):Int×Bool:=
 (match(jR r a).choices.find? (mV q) with|some ch=>l.getD ch.by_.toNat 0|none=>a,match(jR r a).choices.find? (mV q) with|some ch=>ch.whole|none=>false)
def NO (r:Realm)(l0:xB r)(a q:Int)(l:List Int)(hl:l.length<=100000)(hf:j6 r a q l=true):
 au T 108 [bB r,.int a,.int q,ints l] (.tup [.int (fM r a q l).1,.bool (fM r a q l).2])/\0<=(fM r a q l).1/\(fM r a q l).1<r.orders.length:=by
 obtain⟨ha,vZ,hx,_⟩:=Bd hf;have ot:a.toNat<r.orders.length:=by omega
 obtain⟨aR,l6⟩:=l0 _ (cY ot);obtain⟨o,ho⟩:∃o,o=r.orders[a.toNat]:=⟨_,rfl⟩
 rw[<-ho] at aR l6;have yF:jR r a=o:=by rw[ho];simp[jR,ot]
 unfold fM;rw[yF];refine⟨?_,?_⟩
 .refine zyv 27 au7 ?_;simp[Ve];refine⟨_,Zj r a q l hl,?_⟩;simp[hf,ot,<-ho,ha];refine aP.scan o.choices.length (λk=>mV q (o.choices.getD k default)=false) (λk=>[.int 0,.bool false,.int k]) (λ_=>[]) ?_ (λk hk hj az=>?_) (λk hk hj az=>?_) (λhj=>?_)
  .simp
  .have hw:=br hk (by omega);have hn:¬(o.choices[k].ask=q/\¬o.choices[k].by_=0):=by simpa [mV,hk] using az
   simp[TQ,Gn,ot,<-ho,hk,hw,hn]
  .have kM:=ya hk (by simpa [hk] using az) (λj bh=>by have:=hj j bh;simpa [show j<o.choices.length by omega] using this);rw[kM];have hc:o.choices[k].ask=q/\¬o.choices[k].by_=0:=by simpa [mV,hk] using az
   have hb:=l6 _ (cY hk);have jJ:o.choices[k].by_.toNat<l.length:=by omega
   simp[TQ,Gn,ot,<-ho,hk,hc,ints,jJ];omega
  .have kM:=Ec (l:=o.choices) (p:=mV q) (λj bh=>by have:=hj j bh;simpa [bh] using this);rw[kM];simp[TQ,Gn,ot,<-ho]
 .cases kM:o.choices.find? (mV q) with
  |none=>exact ha
  |some ch=>
   have hb:=l6 _ (rI kM);have jJ:ch.by_.toNat<l.length:=by omega
   simp[jJ];exact hx _ (cY jJ)
def L1:∀(N:Nat) (l:List Int),l.Nodup->(∀x,x∈l->0<=x/\x<(N:Int))->l.length<=N
 |0,l,hn,h=>by
  cases l with
  |nil=>simp
  |cons a l=>have:=h a (by simp);omega
 |N+1,l,hn,h=>by
  by_cases hm:(N:Int)∈l
  .have h1:=L1 N (l.erase (N:Int)) (hn.erase _) (λx hx=>by
    have dz:=(hn.mem_erase_iff).mp hx;have:=h x dz.2;have aB:=dz.1;omega)
   rw[List.length_erase_of_mem hm] at h1;omega
  .have h1:=L1 N l hn (λx hx=>by
    have:=h x hx;have aB:x≠(N:Int):=λe=>hm (e▸hx);omega)
   omega
def cE (l:List Int):Int:=l.getD (l.length-1) 0
def jn (r:Realm)(q:Int)(l:List Int):Nat->List Int->List Int×Int
 |0,p=>(p,0)
 |n+1,p=>
  if(fM r (cE p) q l).1=cE p then(p,0)
  else if(fM r (cE p) q l).2=false\/(hasB p (fM r (cE p) q l).1=true/\(jR r (fM r (cE p) q l).1).accepts=true) then(p++[(fM r (cE p) q l).1],0)
  else if hasB p (fM r (cE p) q l).1=true then(p++[(fM r (cE p) q l).1],12)
  else jn r q l n (p++[(fM r (cE p) q l).1])
def FD (r:Realm)(q:Int)(l:List Int)(n:Nat)(p:List Int):jn r q l (n+1) p=
 if(fM r (cE p) q l).1=cE p then(p,0)
 else if(fM r (cE p) q l).2=false\/(hasB p (fM r (cE p) q l).1=true/\(jR r (fM r (cE p) q l).1).accepts=true) then(p++[(fM r (cE p) q l).1],0)
 else if hasB p (fM r (cE p) q l).1=true then(p++[(fM r (cE p) q l).1],12)
 else jn r q l n (p++[(fM r (cE p) q l).1]):=rfl
def dh (r:Realm)(a q:Int)(l:List Int):List Int×Int:=if j6 r a q l=true/\l.getD 0 0=a then jn r q l r.orders.length [a] else([],1)
def ahJ (r:Realm)(l0:xB r)(hn:r.orders.length<=100000)(a q:Int)(l:List Int)(hl:l.length<=100000):au T 84 [bB r,.int a,.int q,ints l] (.tup [ints (dh r a q l).1,.int (dh r a q l).2]):=by
 refine zyv 22 au6 ?_;simp[Vd];refine⟨_,Zj r a q l hl,?_⟩;cases hf:j6 r a q l
 .simp[dh,hf];rfl
 obtain⟨ha,vZ,hx,qB⟩:=Bd hf;have h0:0<l.length:=by omega
 by_cases v5:l[0]=a
 .have hE:dh r a q l=jn r q l r.orders.length [a]:=by unfold dh;rw[if_pos ⟨hf,by simp[h0,v5]⟩]
  rw[hE];simp[h0,v5,ints];refine aP.forLoop (α:=Nat×List Int) (λs vr vo=>vr=[.list [],.int 0,.none]/\vo=[ints s.2]/\s.2.Nodup/\(∀x,x∈s.2->0<=x/\x<(r.orders.length:Int))/\s.2≠[]/\s.1+s.2.length=r.orders.length+1/\jn r q l s.1 s.2=jn r q l r.orders.length [a]) (λs=>s.1) (r.orders.length,[a]) ?_ ?_
  .simp[ints];exact ha
  .rintro⟨n,p⟩ vr vo ⟨rfl,rfl,bn,bp,aB,hlen,um⟩;simp only at*;have dO:p.length<=r.orders.length:=L1 _ p bn bp;have v9:0<p.length:=zO.mpr aB;obtain⟨m,rfl⟩:∃m,n=m+1:=⟨n-1,by omega⟩
   have ah:p.length-1<p.length:=by omega
   have jf:cE p=p[p.length-1]:=by simp[cE,ah]
   have oB:=bp _ (cY ah);rw[<-jf] at oB;obtain⟨yf,fw,fy⟩:=NO r l0 (cE p) q l hl (qB _ oB.1 oB.2);have yA:((p.length:Int)-1).toNat=p.length-1:=by omega
   have yR:i64.wrap ((p.length:Int)-1)=(p.length:Int)-1:=bu (by omega);rw[<-um,FD];obtain⟨L,hL⟩:∃L,L=fM r (cE p) q l:=⟨_,rfl⟩
   rw[<-hL] at yf fw fy ⊢;obtain⟨to,whole⟩:=L;simp only at yf fw fy;have qU:to.toNat<r.orders.length:=by omega
   have yF:jR r to=r.orders[to.toNat]:=by simp[jR,qU]
   simp only[yF];simp[ato,TP,yR,yA,ah,<-jf,ints];refine⟨by omega,_,yf,?_⟩;by_cases h1:to=cE p
   .simp[h1]
   simp[h1];refine⟨_,HH p to (by omega),by omega,?_⟩;cases whole
   .simp
   cases h2:hasB p to
   .have dp:to∉p:=λhm=>by
     have:hasB p to=true:=by simp[hasB,hm]
     rw[h2] at this;cases this
    simp[h2];refine⟨m,by omega,p++[to],by simp,?_,?_,by simp,by simp;omega,rfl⟩
    .exact zR.mpr ⟨bn,by simp,λx hx y hy=>by simp at hy;subst hy;exact λe=>dp (e▸hx)⟩
    .intro x hx;rcases dm.mp hx with h|h
     .exact bp x h
     .simp at h;subst h;exact⟨fw,fy⟩
   .cases h3:r.orders[to.toNat].accepts<;>simp[h2,h3,qU]<;>omega
 .have hE:dh r a q l=([],1):=by unfold dh;rw[if_neg (by simp[h0,v5])]
  rw[hE];simp[h0,v5];rfl
def eg (f:File)(i:Int):Sign:=f.signs.getD i.toNat default
def fB (r:Realm)(av:Int)(c:Case):List Int:=[av,eG r (eg c.file c.sign).city,eG r c.file.bill.pay,eG r c.file.bill.city,eG r (r.firms.getD (eg c.file c.sign).who.toNat default).city]
def lj (r:Realm)(av:Int)(c:Case):Prop:=(eg c.file c.sign).who<0\/(r.firms.length:Int)<=(eg c.file c.sign).who\/av<0\/(r.orders.length:Int)<=av
instance (r:Realm) (av:Int) (c:Case):Decidable (lj r av c):=by unfold lj;infer_instance
def gP (r:Realm)(av:Int)(c:Case):List Int:=if lj r av c then[] else if hasB (fB r av c) (-1)=true then[] else fB r av c
@[simp] def aAf (r:Realm)(x:Int):zW (bB r) x=eG r x:=by
  unfold zW eG aJ;by_cases h:0<=x/\x<(r.cities.length:Int)
  .have hx:x.toNat<r.cities.length:=by omega
   rw[if_pos (by simpa using h),if_pos (by simpa using h)];simp[hx]
  .rw[if_neg (by simpa using h),if_neg (by simpa using h)]
def aet (r:Realm)(av:Int)(c:Case)(h1:c.sign.toNat<c.file.signs.length):SZ [bB r,.int av,cq c]=ints (gP r av c):=by
 have hs:eg c.file c.sign=c.file.signs[c.sign.toNat]:=by simp[eg,h1]
 unfold SZ gP;simp[h1];by_cases hb:lj r av c
 .rw[if_pos (by simpa [lj,hs] using hb),if_pos hb];rfl
 .rw[if_neg (by simpa [lj,hs] using hb),if_neg hb];have La:(eg c.file c.sign).who.toNat<r.firms.length:=by unfold lj at hb;omega
  have abh:c.file.signs[c.sign.toNat].who.toNat<r.firms.length:=by rw[<-hs];exact La
  have lx:fB r av c=[av,eG r c.file.signs[c.sign.toNat].city,eG r c.file.bill.pay,eG r c.file.bill.city,eG r r.firms[c.file.signs[c.sign.toNat].who.toNat].city]:=by
   simp[fB,hs,abh]
  have cL:∀l:List Int,hasB l (-1)=true↔-1∈l:=λl=>by simp[hasB]
  rw[lx];simp[abh];split
  .rename_i h;rw[if_pos ((cL _).mpr (by simpa using h))];rfl
  .rename_i h;rw[if_neg (λh'=>h (by simpa using(cL _).mp h'))]
def asw (r:Realm)(av:Int)(c:Case)(h1:0<=c.sign/\c.sign<c.file.signs.length):au T 83 [bB r,.int av,cq c] (ints (gP r av c)):=by
 have da:c.sign.toNat<c.file.signs.length:=by omega
 rw[<-aet r av c da];have hs:eg c.file c.sign=c.file.signs[c.sign.toNat]:=by simp[eg,da]
 refine au.of_nsl rfl auU auV ?_;rw[aet r av c da];by_cases hb:lj r av c
 .refine .inr ⟨by simp[gP,hb];rfl,?_⟩;have eA:=hb;simp[lj,hs] at eA;simp[Ns,h1,da]
  intros;omega
 have sf:gP r av c=if hasB (fB r av c) (-1)=true then[] else fB r av c:=by unfold gP;rw[if_neg hb]
 have eA:=hb;simp[lj,hs] at eA;have hw:c.file.signs[c.sign.toNat].who.toNat<r.firms.length:=by omega
 have hC:=HH (fB r av c) (-1) (by simp[fB]);cases hh:hasB (fB r av c) (-1)<;>rw[hh] at hC<;>simp[fB,ints,hs,hw] at hC
 .refine .inl ⟨(fB r av c).map .int,by simp[fB],by rw[sf,hh];rfl,?_⟩;simp[U3,h1,da,hw];rw[if_neg (by omega)];refine⟨_,sU r _,_,sU r _,_,sU r _,by omega,_,sU r _,_,by simpa using hC,?_⟩;simp[fB,hs,hw]
 .refine .inr ⟨by rw[sf,hh];rfl,?_⟩;simp[Ns,h1,da,hw]
  intros
  refine⟨_,sU r _,_,sU r _,_,sU r _,by omega,_,sU r _,_,by simpa using hC,?_⟩;simp
structure Right (r:Realm):Prop where
 by_:xB r
 len:r.orders.length<=100000
 ok:∀o,o∈r.orders->o.OK/\o.rules.length<=100000
structure FewS (f:File):Prop where
 signs:f.signs.length<=1000
 alters:f.alters.length<=1000
 acts:f.acts.length<=1000
 facts:f.facts.length<=1000
def agJ {α:Type}(p:α->Bool)(l:List α):(l.takeWhile p).length<=l.length:=by
 obtain⟨m,h1,h2,_⟩:=zB p l;rw[h2,dv];omega
def FewS.at_ {f:File}(h:FewS f)(day:Int):FewS (gH f day):=
 ⟨cn (agJ _ _) h.1,cn (Dj _ _) h.2,cn (agJ _ _) h.3,cn (Dj _ _) h.4⟩
def bV (c:Case):Case:={c with file:=gH c.file c.day}
@[simp] def az6 (x:File)(a0 a1 a2 a3 a4 a5 a6 a7 a8 a9 ph rM rN rO rP vx vy vz xJ:D)(s h d u y:Int):nq 24 (D.agg (eh [a0,a1,a2,a3,a4,a5,a6,a7,a8,a9,ph,rM,rN,rO,rP,vx,vy,vz,xJ,.int s,.int h,.int d,.int u,.int y] 0 [.int x.bill.drawer,.int x.bill.drawee,.int x.bill.payee,.int x.bill.sum,.int x.bill.currency,.int x.bill.tenor.kind,.int x.bill.tenor.n,.int x.bill.tenor.unit,.int x.bill.day,.int x.bill.city,.int x.bill.pay,.int x.bill.need,.int x.bill.rate,.int x.bill.flags,.int x.bill.parts,signs x.signs,alters x.alters,acts x.acts,facts x.facts]))=cq ⟨x,s,h,d,u,y⟩:=zyy
def aih (r:Realm)(c:Case)(hf:FewS c.file):au T 81 [bB r,cq c] (.tup [cq (bV c),cells (eR r (bV c))]):=by
 refine zyv 8 auT ?_;simp[U2];have h1:=hf.1;have h2:=hf.2;have h3:=hf.3;have h4:=hf.4;refine⟨_,atA c.file c.day (by omega) (by omega) (by omega) (by omega),?_⟩;have KD:=hf.at_ c.day;have h5:=KD.4;have h6:=KD.2;simp;exact⟨atC r (bV c) (by show(gH c.file c.day).facts.length<=_;omega) (by show(gH c.file c.day).alters.length<=_;omega),(congrArg (nq 24) (asb (bV c) _ _ _ _ _ _ _ _ _ _ _ _ _ _ _ _ _ _ _ _ _ _ _ _)).trans (ah8 (bV c))⟩
def Xn {r:Realm}{c:Case}(h:eR r c≠[]):0<=c.sign/\c.sign<c.file.signs.length:=by
 unfold eR at h;split at h
 .rename_i hh;have h1:=hh.1;unfold oe at h1;simp[aJ] at h1;omega
 .exact absurd rfl h
def abH (r:Realm)(l0:xB r)(q:Int)(l:List Int)(hl:l.length<=100000)(qB:∀b:Int,0<=b->b<r.orders.length->j6 r b q l=true):∀(n:Nat) (p:List Int),p≠[]->(∀x,x∈p->0<=x/\x<(r.orders.length:Int))->
 (jn r q l n p).1≠[]/\∀x,x∈(jn r q l n p).1->0<=x/\x<(r.orders.length:Int)
 |0,p,aB,hp=>⟨aB,hp⟩
 |n+1,p,aB,hp=>by
  have ah:p.length-1<p.length:=by have:=zO.mpr aB;omega
  have jf:cE p=p[p.length-1]:=by simp[cE,ah]
  have oB:=hp _ (cY ah);rw[<-jf] at oB;obtain⟨_,ht⟩:=NO r l0 (cE p) q l hl (qB _ oB.1 oB.2)
  have aT:∀x,x∈p++[(fM r (cE p) q l).1]->0<=x/\x<(r.orders.length:Int):=λx hx=>by
   rcases dm.mp hx with h|h
   .exact hp x h
   .simp at h;subst h;exact ht
  rw[FD];split
  .exact⟨aB,hp⟩
  split
  .exact⟨by simp,aT⟩
  split
  .exact⟨by simp,aT⟩
  .exact abH r l0 q l hl qB n _ (by simp) aT
def Ll {r:Realm}(hr:Right r){a q:Int}{l:List Int}(hl:l.length<=100000)(h:(dh r a q l).2=0):(dh r a q l).1≠[]/\0<=cE (dh r a q l).1/\cE (dh r a q l).1<r.orders.length:=by
 unfold dh at h ⊢;split at h
 .rename_i hh;rw[if_pos hh];obtain⟨ha,vZ,hx,qB⟩:=Bd hh.1;obtain⟨h1,h2⟩:=abH r hr.by_ q l hl qB r.orders.length [a] (by simp) (λx hx=>by simp at hx;subst hx;exact ha);refine⟨h1,?_⟩;have ah:(jn r q l r.orders.length [a]).1.length-1<(jn r q l r.orders.length [a]).1.length:=by have:=zO.mpr h1;omega
  have jf:cE (jn r q l r.orders.length [a]).1=(jn r q l r.orders.length [a]).1[(jn r q l r.orders.length [a]).1.length-1]:=by simp[cE,ah]
  rw[jf];exact h2 _ (cY ah)
 .cases h
def abI (r:Realm)(q:Int)(l:List Int):∀(n:Nat) (p:List Int),(jn r q l n p).1.length<=p.length+n
 |0,p=>by simp[jn]
 |n+1,p=>by
  rw[FD];split
  .simp
  split
  .simp
  split
  .simp
  .have:=abI r q l n (p++[(fM r (cE p) q l).1]);simp at this;omega
def abG (r:Realm)(a q:Int)(l:List Int):(dh r a q l).1.length<=1+r.orders.length:=by
 unfold dh;split
 .exact abI r q l _ [a]
 .simp
@[simp] def aDB (a b c d e x:D):eh [a,b,c,d,e] 2 [x]=[a,b,x,d,e]:=zyy
@[simp] def aDC (a b c d e x:D):eh [a,b,c,d,e] 3 [x]=[a,b,c,x,e]:=zyy
@[simp] def aDD (a b c d e x:D):eh [a,b,c,d,e] 4 [x]=[a,b,c,d,x]:=zyy
def FM:Said:=⟨dj,-1,[],1⟩
def jb (r:Realm)(av q:Int)(c:Case):Said×List Cell:=
 if eR r (bV c)=[] then(FM,[]) else if(fP q).2=false then(FM,[]) else if gP r av (bV c)=[] then(FM,[]) else
    (⟨dj,if(dh r av q (gP r av (bV c))).2=0 then cE (dh r av q (gP r av (bV c))).1 else-1,(dh r av q (gP r av (bV c))).1,(dh r av q (gP r av (bV c))).2⟩,eR r (bV c))
def aeu (r:Realm)(av:Int)(c:Case):(gP r av c).length<=5:=by
 unfold gP;split
 .simp
 split<;>simp[fB]
def aif (r:Realm)(hr:Right r)(av q:Int)(c:Case)(hf:FewS c.file):au T 63 [bB r,.int av,.int q,cq c] (.tup [D3 (jb r av q c).1,cells (jb r av q c).2]):=by
 refine zyv 7 auS ?_;simp[U1];refine⟨_,aih r c hf,?_⟩;by_cases hv:eR r (bV c)=[]
 .simp[hv,jb];exact⟨rfl,rfl⟩
 simp[hv,jb];refine⟨_,SS q,?_⟩;cases hq:(fP q).2
 .simp[hq];exact⟨rfl,rfl⟩
 simp[hq];refine⟨_,asw r av (bV c) (Xn hv),?_⟩;by_cases hp:gP r av (bV c)=[]
 .simp[hp];exact⟨rfl,rfl⟩
 have dO:=aeu r av (bV c);have aB:ints (gP r av (bV c))≠.list []:=λe=>hp (by simpa [ints] using e);simp[hp];generalize gP r av (bV c)=l at*;refine⟨_,ahJ r hr.by_ hr.len av q l (by omega),?_⟩;have hlen:=abG r av q l;have um:=Ll hr (a:=av) (q:=q) (l:=l) (by omega);have BI:=hr.len;generalize dh r av q l=L at*;obtain⟨path,err⟩:=L;simp only at*;by_cases he:err=0
 .obtain⟨h1,h2⟩:=um he;have v9:=zO.mpr h1;have yR:i64.wrap ((path.length:Int)-1)=(path.length:Int)-1:=bu (by omega);have yA:((path.length:Int)-1).toNat=path.length-1:=by omega
  have ah:path.length-1<path.length:=by omega
  have jf:cE path=path[path.length-1]:=by simp[cE,ah]
  simp[he,yR,yA,ah,<-jf];exact⟨by omega,rfl⟩
 .simp[he];rfl
def oc (r:Realm)(av q:Int)(c:Case):Said:=
 if(jb r av q c).1.order=-1 then(jb r av q c).1
 else⟨(pk (jR r (jb r av q c).1.order) q (jb r av q c).2).1,(jb r av q c).1.order,(jb r av q c).1.path,(pk (jR r (jb r av q c).1.order) q (jb r av q c).2).2⟩
def aie {r:Realm}(hr:Right r)(av q:Int)(c:Case):(jb r av q c).1.order=-1\/(0<=(jb r av q c).1.order/\(jb r av q c).1.order<r.orders.length):=by
 unfold jb;split
 .exact .inl rfl
 split
 .exact .inl rfl
 split
 .exact .inl rfl
 .have dO:=aeu r av (bV c);have um:=Ll hr (a:=av) (q:=q) (l:=gP r av (bV c)) (by omega);show(if _ then _ else _)=_\/_;split
  .rename_i h;exact .inr (um h).2
  .exact .inl rfl
def Ya (r:Realm)(hr:Right r)(av q:Int)(c:Case)(hf:FewS c.file):au T 30 [bB r,.int av,.int q,cq c] (D3 (oc r av q c)):=by
 refine zyv 6 auR ?_;simp[U0];refine⟨_,aif r hr av q c hf,?_⟩;have ho:=aie hr av q c;unfold oc;generalize jb r av q c=S at*;obtain⟨s,cs⟩:=S;simp only at*;by_cases h:s.order=-1
 .obtain⟨⟨kn,n⟩,o,pth,e⟩:=s;simp only at h;subst h;simp;rfl
 .have h1:0<=s.order/\s.order<r.orders.length:=by omega
  have h2:s.order.toNat<r.orders.length:=by omega
  have h3:jR r s.order=r.orders[s.order.toNat]:=by simp[jR,h2]
  obtain⟨az,hlen⟩:=hr.ok _ (cY h2);simp[h,h1,h2,h3];refine⟨_,ar5 _ q cs az (by omega),?_⟩;simp;rfl
def ahS (r:Realm)(fr to:Int)(hl:r.usances.length<=100000):∃n e:Int,au T 75 [bB r,.int fr,.int to] (.tup [.int n,.int e])/\(e=0->∃u,u∈r.usances/\n=u.days)/\(e=0↔∃u,u∈r.usances/\u.fr=fr/\u.to=to):=by
 let p:Usance->Bool:=λu=>decide (u.fr=fr)&&decide (u.to=to)
 refine⟨match r.usances.find? p with|some u=>u.days|none=>0,match r.usances.find? p with|some u=>0|none=>4,?_,?_⟩
 .refine zyv 80 awq ?_;simp[Wi];refine aP.scan r.usances.length (λk=>p (r.usances.getD k default)=false) (λk=>[.int 0,.int 0,.int k]) (λ_=>[]) ?_ (λk hk hj az=>?_) (λk hk hj az=>?_) (λhj=>?_)
  .simp
  .have hw:=br hk (by omega);have hn:¬(r.usances[k].fr=fr/\r.usances[k].to=to):=by simpa [p,hk] using az
   simp[Uc,GI,hk,hw,hn]
  .have kM:=ya hk (by simpa [hk] using az) (λj bh=>by have:=hj j bh;simpa [show j<r.usances.length by omega] using this);have hc:r.usances[k].fr=fr/\r.usances[k].to=to:=by simpa [p,hk] using az
   rw[kM];simp[Uc,GI,hk,hc]
  .have kM:=Ec (l:=r.usances) (p:=p) (λj bh=>by have:=hj j bh;simpa [bh] using this);rw[kM];simp[Uc,GI]
 .cases h:r.usances.find? p with
  |none=>
   refine⟨λh=>(by cases h),λh=>(by cases h),λ⟨u,hu,h1,h2⟩=>?_⟩;have:=qk.1 h u hu;simp[p,h1,h2] at this
  |some u=>
   have h2:u.fr=fr/\u.to=to:=by simpa [p] using HP h
   exact⟨λ_=>⟨u,rI h,rfl⟩,λ_=>⟨u,rI h,h2⟩,λ_=>rfl⟩
def XD (r:Realm):Prop:=r.halts.length<=100000/\∀h,h∈r.halts->0<=h.fr/\h.to<=100000
structure RightD (r:Realm):Prop where
 small:Small r
 halts:XD r
def au.ex_of_tree {tab:Nat->Option PC}{ext:Nat->Option (aV->List D->Option D)}{f:Nat}{pc:PC}{t:PT}{ds:List D}{P:D->Prop}(hx:ext f=none)(ht:tab f=some pc)(he:tree pc=t)
 (h:aL (gr tab ext) t (mE ds) (λx=>∃d,x=.ret d/\P d)):∃d,au (gr tab ext) f ds d/\P d:=by
 subst he;obtain⟨x,⟨d,rfl,hd⟩,n0,hn⟩:=agG (L3 ⟨λ_ _ _ h=>(by obtain⟨_,h,_⟩:=h;cases h),λ_ _ _ _ _ _ h=>(by obtain⟨_,h,_⟩:=h;cases h),λ_ h=>h⟩ h);exact⟨d,.of_pc hx ht ⟨.ret d,rfl,n0,hn⟩,hd⟩
def eP (r:Realm)(av:Int)(c:Case):List Int:=if eR r (bV c)=[] then[] else gP r av (bV c)
def Zk {n:Nat}{f:Nat->Int}(h:gw n f=0)(k:Nat)(hk:k<n):f k=0:=J0.1 h k hk
def YB {r:Realm}(h:ic r=0)(k:Nat)(hk:k<r.orders.length):uJ r.orders[k]=true:=by
 unfold ic at h;rw[M8] at h;have h1:=h (nv (uG r) 20 (y8 r)) (by simp);unfold nv at h1;split at h1
 .cases h1
 have h2:=Zk h1 k (by simpa [uG] using hk);have h3:=(Zm h2).2;unfold y8 at h3;simpa [hk] using h3
def alX {r:Realm}(hs:Small r)(h:ic r=0):xB r:=by
 intro o ho;obtain⟨k,hk,rfl⟩:=gn ho;have h1:=YB h k hk;obtain⟨hc,_⟩:=hs.order _ ho;refine⟨by omega,λch l6=>?_⟩;unfold uJ at h1;simp only[aq] at h1;obtain⟨j,hj,rfl⟩:=gn l6;have h2:=Dn.1 h1.1 j hj;simpa [aJ,hj] using h2
def alY {r:Realm}(hs:Small r)(h:ic r=0):XD r:=by
 refine⟨by have:=hs.halts;omega,λx hx=>?_⟩;obtain⟨k,hk,rfl⟩:=gn hx;unfold ic at h;rw[M8] at h;have h1:=h (w8 r) (by simp);unfold w8 at h1;split at h1
 .cases h1
 split at h1
 .cases h1
 split at h1
 .cases h1
 split at h1
 .rename_i aI;have h2:=Dn.1 aI k hk;simp[Ey,wi,aJ,hk] at h2;omega
 .cases h1
structure Good (r:Realm) (f:File):Prop where
 right:Right r
 rightD:RightD r
 few:FewS f
def alZ {r:Realm}{f:File}(hr:r.OK)(h:J7 r f=true):Good r f:=by
 unfold J7 tX at h;simp only[aq,decide_eq_true_eq] at h;obtain⟨⟨⟨h1,h2⟩,h3⟩,h4⟩:=h;have hs:=PD hr h1;refine⟨⟨alX hs h4,by have:=hs.orders;omega,λo ho=>?_⟩,⟨hs,alY hs h4⟩,?_⟩
 .have:=hs.order o ho;refine⟨?_,by omega⟩;exact hr.2.2.2.2.1.2 o ho
 .simp[Ea] at h2;exact⟨by omega,by omega,by omega,by omega⟩
def aiY {r:Realm}(h:ic r=0)(i:Nat)(hi:i<r.cities.length):pq r r.cities[i]=true:=by
 unfold ic at h;rw[M8] at h;have h1:=h (nv (uF r) 40 (xS r)) (by simp);unfold nv at h1;split at h1
 .cases h1
 have h2:=Zk h1 i (by simpa [uF] using hi);have h3:=(Zm h2).2;unfold xS at h3;simpa [hi] using h3
def ai3 {r:Realm}(h:ic r=0)(i:Nat)(hi:i<r.cities.length):0<=r.cities[i].order/\r.cities[i].order<r.orders.length:=by
 have:=aiY h i hi;unfold pq at this;simp only[aq] at this;obtain⟨⟨_,⟨⟨_,h2⟩,_⟩⟩,_⟩:=this;simpa [aJ] using h2
def FU {r:Realm}(h:ic r=0)(c:Int):eG r c=-1\/(0<=eG r c/\eG r c<r.orders.length):=by
 unfold eG;split
 .rename_i hc;have Bs:0<=c/\c<r.cities.length:=by simpa [aJ] using hc
  have hl:c.toNat<r.cities.length:=by omega
  right;have:=ai3 h c.toNat hl;simpa [hl] using this
 .exact .inl rfl
def axf {q:Int}(h:q<0\/22<=q):(fP q).2=false:=by unfold fP;rw[if_pos h]
def axg {q:Int}(h:¬(q<0\/22<=q)):(fP q).2=true:=by unfold fP;rw[if_neg h];split<;>rfl
def abA {r:Realm}{av q:Int}{c:Case}(h:eP r av c=[]\/q<0\/22<=q):oc r av q c=FM:=by
 have e:(jb r av q c)=(FM,[]):=by
  unfold jb;by_cases h1:eR r (bV c)=[]
  .rw[if_pos h1]
  rw[if_neg h1];cases h2:(fP q).2
  .rw[if_pos rfl]
  rw[if_neg (by simp)];rcases h with h|h
  .unfold eP at h;rw[if_neg h1] at h;rw[if_pos h]
  .rw[axf h] at h2;cases h2
 unfold oc;rw[e];rfl
structure Joined (r:Realm) (av q:Int) (c:Case):Prop where
 vars:(eR r (bV c)).length=20
 sign:0<=c.sign/\c.sign<(gH c.file c.day).signs.length
 who:0<=(eg (gH c.file c.day) c.sign).who/\(eg (gH c.file c.day) c.sign).who<r.firms.length
 places:eP r av c=[av,eG r (eg (gH c.file c.day) c.sign).city,eG r c.file.bill.pay,eG r c.file.bill.city,eG r (r.firms.getD (eg (gH c.file c.day) c.sign).who.toNat default).city]
 path:(dh r av q (eP r av c)).1≠[]
 ask:oc r av q c=if(dh r av q (eP r av c)).2=0 then⟨(pk (jR r (cE (dh r av q (eP r av c)).1)) q (eR r (bV c))).1,cE (dh r av q (eP r av c)).1,(dh r av q (eP r av c)).1,(pk (jR r (cE (dh r av q (eP r av c)).1)) q (eR r (bV c))).2⟩
  else⟨dj,-1,(dh r av q (eP r av c)).1,(dh r av q (eP r av c)).2⟩
def abJ (r:Realm)(q:Int)(l:List Int):∀(n:Nat) (p:List Int),p≠[]->(jn r q l n p).1≠[]
 |0,p,h=>h
 |n+1,p,h=>by
  rw[FD];split
  .exact h
  split
  .simp
  split
  .simp
  .exact abJ r q l n _ (by simp)
def apg {r:Realm}(hr:Right r)(hc:ic r=0){av q:Int}{c:Case}(h:eP r av c≠[])(hq:¬(q<0\/22<=q)):Joined r av q c:=by
 have hv:eR r (bV c)≠[]:=λe=>h (by unfold eP;rw[if_pos e]);have dO:eP r av c=gP r av (bV c):=by unfold eP;rw[if_neg hv]
 have hp:gP r av (bV c)≠[]:=by rw[<-dO];exact h
 have hb:¬lj r av (bV c):=λe=>hp (by unfold gP;rw[if_pos e]);have hn:hasB (fB r av (bV c)) (-1)=false:=by
  cases e:hasB (fB r av (bV c)) (-1) with
  |false=>rfl
  |true=>exact absurd (by unfold gP;rw[if_neg hb,if_pos e]) hp
 have ho:gP r av (bV c)=fB r av (bV c):=by unfold gP;rw[if_neg hb,hn];simp
 have bp:∀x,x∈fB r av (bV c)->0<=x/\x<r.orders.length:=by
  intro x hx
  have aB:x≠-1:=λe=>by
   subst e;have:hasB (fB r av (bV c)) (-1)=true:=by simpa [hasB] using hx
   rw[hn] at this;cases this
  unfold fB at hx;simp only[cZ,List.not_mem_nil,or_false] at hx;unfold lj at hb;rcases hx with rfl|rfl|rfl|rfl|rfl
  .omega
  all_goals
   rcases FU hc _ with e|e
   .exact absurd e aB
   .exact e
 have KF:j6 r av q (fB r av (bV c))=true:=by
  have hf:=bp av (by simp[fB]);have hl:(fB r av (bV c)).length=5:=rfl;unfold j6;rw[aq];constructor
  .simp[hl];omega
  .rw[iY,zL];intro k hk;have bM:=cm.1 hk;have:=bp ((fB r av (bV c))[k]) (cY bM);simp[FV,bM];omega
 have um:dh r av q (eP r av c)=jn r q (eP r av c) r.orders.length [av]:=by
  unfold dh;rw[dO,ho,if_pos ⟨KF,rfl⟩]
 refine⟨?_,Xn hv,?_,by rw[dO,ho];rfl,by rw[um];exact abJ _ _ _ _ _ (by simp),?_⟩
 .unfold eR at hv ⊢;split at hv
  .rename_i hh;rw[if_pos hh];simp[Bj,sW,sX]
  .exact absurd rfl hv
 .unfold lj at hb;have e1:(bV c).file=gH c.file c.day:=rfl;have e2:(bV c).sign=c.sign:=rfl;rw[e1,e2] at hb;omega
 .have e:jb r av q c=(⟨dj,if(dh r av q (eP r av c)).2=0 then cE (dh r av q (eP r av c)).1 else-1,(dh r av q (eP r av c)).1,(dh r av q (eP r av c)).2⟩,eR r (bV c)):=by
   unfold jb;rw[if_neg hv,axg hq,if_neg (by simp),if_neg hp,dO]
  have vZ:(eP r av c).length<=100000:=by rw[dO,ho];simp[fB]
  have QD:=Ll hr (a:=av) (q:=q) (l:=eP r av c) vZ;unfold oc;rw[e];generalize dh r av q (eP r av c)=L at*;by_cases h0:L.2=0
  .have:=(QD h0).2;simp only[h0,if_true];rw[if_neg (by omega)]
  .simp[h0]
def asO (f:File)(kind sign:Int)(hl:f.facts.length<=4294967295):au T 120 [cr f,.int kind,.int sign] (cu (jD f kind sign)):=by
 refine zyv 111 avA ?_;simp[VE];refine .scan f.facts.length (λk=>mF kind sign (f.facts.getD k default)=false) (λk=>[.int k]) (λ_=>[cu dj]) ?_ (λk hk hj ho=>?_) (λk hk hj ho=>?_) (λhj=>?_)
 .simp
 .have hw:=br hk (by omega);simp[hk,mF] at ho;by_cases h1:f.facts[k].kind=kind<;>by_cases h2:f.facts[k].at_=sign
  .exact absurd h2 (ho h1)
  all_goals simp[MI,CO,hk,hw,h1,h2]
 .have hf:jD f kind sign=fD (decide (f.facts[k].n≠0)):=by
   unfold jD;rw[ya hk (by simpa [hk] using ho) (λj bh=>by have:=hj j bh;simpa [show j<f.facts.length by omega] using this)]
  simp[hk,mF] at ho;by_cases hn:f.facts[k].n=0
  .simp[MI,CO,hk,ho,hf,hn];rfl
  .simp[MI,CO,hk,ho,hf,hn];rfl
 .have hf:jD f kind sign=dj:=by
   unfold jD;rw[Ec (λj bh=>by have:=hj j bh;simpa [bh] using this)]
  simp[MI,CO,hf]
def jQ (x y:Fact):Bool:=decide (y.at_<x.at_)||(decide (y.at_=x.at_)&&decide (y.kind<x.kind))
def dL (x y:Fact):Bool:=decide (x.at_<y.at_)||(decide (y.at_=x.at_)&&decide (x.kind<y.kind))
def my (l:List Fact)(x:Fact):List Fact:=l.filter (jQ x)++[x]++l.filter (dL x)
@[simp] def aDA (a0 a1 a2 a3 a4 a5 a6 a7 a8 a9 ph rM rN rO rP vx vy vz xJ x:D):eh [a0,a1,a2,a3,a4,a5,a6,a7,a8,a9,ph,rM,rN,rO,rP,vx,vy,vz,xJ] 18 [x]=[a0,a1,a2,a3,a4,a5,a6,a7,a8,a9,ph,rM,rN,rO,rP,vx,vy,vz,x]:=zyy
@[simp] def aC2:D.none.cells=[D.none]:=zyy
def axC (l:List Fact)(x:Fact):(my l x).length<=l.length+1:=by
 have h:(l.filter (jQ x)).length+(l.filter (dL x)).length<=l.length:=by
  induction l with
  |nil=>simp
  |cons y l ih=>
   have hd:¬(jQ x y=true/\dL x y=true):=by simp[jQ,dL];omega
   cases h1:jQ x y<;>cases h2:dL x y<;>simp[h1,h2] at hd ⊢<;>omega
 unfold my;simp;omega
end Rm
namespace Rm
open Go Cx
structure Chain where
 signs:List Int
 holder:Int
 broken:Int
 bearer:Bool
 azT:Int
 late:List Int
 deriving Inhabited
end Rm
namespace Rm
open Go Go.Proofs Cx
def ago (a b:Int):Prop:=a=2\/a=b
@[simp] def aC1:D.none.b=false:=zyy
def fN (n a b:Int):au T 44 [.int n,.int a,.int b] (.bool (wi n a b)):=by
 refine zyv 82 avp ?_;simp[Vv];by_cases h:a<=n<;>simp[wi,h]
def oW (n m:Int):au T 73 [.int n,.int m] (.bool (aJ n m)):=by
 refine zyv 78 aw6 ?_;simp[WY];by_cases h:0<=n<;>simp[aJ,h]
def No (b:Bill):Bool:=
 if b.tenor.kind=0\/b.tenor.kind=4 then decide (b.tenor.n=0)&&decide (b.tenor.unit=0)
 else if b.tenor.kind=1\/b.tenor.kind=2 then(decide (1<=b.tenor.n)&&decide (b.tenor.n<=400))&&(decide (b.tenor.unit=0)||decide (b.tenor.unit=1))
 else if b.tenor.kind=3 then(decide (b.day<=b.tenor.n)&&decide (b.tenor.n<=100000))&&decide (b.tenor.unit=0)
 else false
def axH (b:Bill):au T 74 [gV b] (.bool (No b)):=by
 refine zyv 79 aw7 ?_;unfold No;simp[WZ];by_cases h0:b.tenor.kind=0
 .by_cases h1:b.tenor.n=0<;>simp[h0,h1]
 by_cases h4:b.tenor.kind=4
 .by_cases h1:b.tenor.n=0<;>simp[h4,h1]
 simp[h0,h4];by_cases k1:b.tenor.kind=1
 .by_cases h1:1<=b.tenor.n<;>by_cases h2:b.tenor.n<=400<;>by_cases h3:b.tenor.unit=0<;>simp[k1,h1,h2,h3]
 by_cases k2:b.tenor.kind=2
 .by_cases h1:1<=b.tenor.n<;>by_cases h2:b.tenor.n<=400<;>by_cases h3:b.tenor.unit=0<;>simp[k2,h1,h2,h3]
 simp[k1,k2];by_cases k3:b.tenor.kind=3
 .by_cases h1:b.day<=b.tenor.n<;>by_cases h2:b.tenor.n<=100000<;>simp[k3,h1,h2]
 simp[k3]
def uH (n m:Int):Bool:=decide (n=-1)||aJ n m
def zD (r:Realm)(b:Bill):Bool:=((aJ b.drawer r.firms.length&&aJ b.drawee r.firms.length)&&uH b.payee r.firms.length)&&uH b.need r.firms.length
def xt (r:Realm)(b:Bill):Bool:=(aJ b.currency r.currencies.length&&aJ b.city r.cities.length)&&aJ b.pay r.cities.length
def Gi (b:Bill):Prop:=((((1<=b.sum/\b.sum<=1099511627776)/\0<=b.day)/\b.day<=100000)/\0<=b.rate)/\b.rate<=1000
def PQ (b:Bill):Prop:=((0<=b.flags/\b.flags<=7)/\(cJ .and .i64 b.flags 4=0\/¬b.payee=-1))/\No b=true
structure BillOK (r:Realm) (b:Bill):Prop where
 realm:ic r=0
 who:zD r b=true
 where_:xt r b=true
 range:Gi b
 parts:1<=b.parts/\b.parts<=4
 form:PQ b
 usance:b.tenor.kind=4->∃u,u∈r.usances/\u.fr=b.city/\u.to=b.pay
def qj (P:Prop)(d:D):Prop:=∃e:Int,d=.int e/\(e=0↔P)
def qj.no {P:Prop}{e:Int}(h:¬P)(he:e≠0):qj P (.int e):=⟨e,rfl,λx=>absurd x he,λx=>absurd x h⟩
def qj.ok {P:Prop}(h:P):qj P (.int 0):=⟨0,rfl,λ_=>h,λ_=>rfl⟩
def axG (r:Realm)(hs:Small r)(b:Bill):∃d,au T 42 [bB r,gV b] d/\qj (BillOK r b) d:=by
 refine au.ex_of_tree rfl aim aw5 ?_;simp[WX];refine⟨_,afJ r hs,?_⟩;by_cases h0:ic r=0
 case neg=>
  simp[h0];exact .no (λh=>h0 h.realm) h0
 simp[h0];refine⟨_,oW _ _,?_⟩;cases h1:aJ b.drawer r.firms.length
 .simp;exact .no (λh=>by simpa [zD,h1] using h.who) (by decide)
 simp;refine⟨_,oW _ _,?_⟩;cases h2:aJ b.drawee r.firms.length
 .simp;exact .no (λh=>by simpa [zD,h2] using h.who) (by decide)
 by_cases h3:uH b.payee r.firms.length=true
 case neg=>
  have mH:¬b.payee=-1/\aJ b.payee r.firms.length=false:=by simpa [uH] using h3
  simp[mH.1];refine⟨_,oW _ _,?_⟩;simp[mH.2];exact .no (λh=>h3 (by have:=h.who;simp[zD] at this;exact this.1.2)) (by decide)
 by_cases h4:uH b.need r.firms.length=true
 case neg=>
  have uc:¬b.need=-1/\aJ b.need r.firms.length=false:=by simpa [uH] using h4
  have eY:qj (BillOK r b) (.int 1):=.no (λh=>h4 (by have:=h.who;simp[zD] at this;exact this.2)) (by decide);by_cases hp:b.payee=-1
  .simp[hp,uc.1];refine⟨_,oW _ _,?_⟩;simp[uc.2];exact eY
  .have mH:aJ b.payee r.firms.length=true:=by simpa [uH,hp] using h3
   simp[hp];refine⟨_,oW _ _,?_⟩;simp[mH,uc.1];refine⟨_,oW _ _,?_⟩;simp[uc.2];exact eY
 have La:zD r b=true:=by simp[zD,h1,h2,h3,h4]
 have hp:b.payee=-1\/(¬b.payee=-1/\aJ b.payee r.firms.length=true):=by
  by_cases e:b.payee=-1
  .exact .inl e
  .exact .inr ⟨e,by simpa [uH,e] using h3⟩
 have hn:b.need=-1\/(¬b.need=-1/\aJ b.need r.firms.length=true):=by
  by_cases e:b.need=-1
  .exact .inl e
  .exact .inr ⟨e,by simpa [uH,e] using h4⟩
 have bad:¬xt r b=true->qj (BillOK r b) (.int 1):=λh=>.no (λk=>h k.where_) (by decide);have fin:∀u:Int,(u=0↔∃u,u∈r.usances/\u.fr=b.city/\u.to=b.pay)->Gi b->(1<=b.parts/\b.parts<=4)->PQ b->xt r b=true->qj (BillOK r b) (if b.tenor.kind=4 then .int u else .int 0):=by
  intro u hu h6 h7 h8 h9;by_cases e:b.tenor.kind=4
  .rw[if_pos e];exact⟨u,rfl,λh=>⟨h0,La,h9,h6,h7,h8,λ_=>hu.1 h⟩,λh=>hu.2 (h.usance e)⟩
  .rw[if_neg e];exact .ok ⟨h0,La,h9,h6,h7,h8,λh=>absurd h e⟩
 obtain⟨un,ue,Fm,_,Fo⟩:=ahS r b.city b.pay (by have:=hs.us;omega);rcases hp with hp|⟨hp,gy⟩<;>rcases hn with hn|⟨hn,qM⟩
 case' inl.inl=>simp[hp,hn]
 case' inl.inr=>simp[hp,hn];refine⟨_,oW _ _,?_⟩;simp[qM]
 case' inr.inl=>simp[hp,hn];refine⟨_,oW _ _,?_⟩;simp[gy]
 case' inr.inr=>simp[hp,hn];refine⟨_,oW _ _,?_⟩;simp[gy];refine⟨_,oW _ _,?_⟩;simp[qM]
 all_goals
  refine⟨_,oW _ _,?_⟩;cases h5:aJ b.currency r.currencies.length
  .simp;exact bad (by simp[xt,h5])
  simp;refine⟨_,oW _ _,?_⟩;cases h6:aJ b.city r.cities.length
  .simp;exact bad (by simp[xt,h6])
  simp;refine⟨_,oW _ _,?_⟩;cases h7:aJ b.pay r.cities.length
  .simp;exact bad (by simp[xt,h7])
  have Fu:xt r b=true:=by simp[xt,h5,h6,h7]
  simp;by_cases h8:Gi b
  case neg=>
   have P1:((((b.sum<1\/1099511627776<b.sum)\/b.day<0)\/100000<b.day)\/b.rate<0)\/1000<b.rate:=by unfold Gi at h8;omega
   rw[if_pos P1];exact .no (λk=>h8 k.range) (by decide)
  have P1:¬(((((b.sum<1\/1099511627776<b.sum)\/b.day<0)\/100000<b.day)\/b.rate<0)\/1000<b.rate):=by unfold Gi at h8;omega
  rw[if_neg P1];by_cases h9:1<=b.parts/\b.parts<=4
  case neg=>
   rw[if_pos (by omega)];exact .no (λk=>h9 k.parts) (by decide)
  rw[if_neg (by omega)];have Om:¬PQ b->qj (BillOK r b) (.int 2):=λh=>.no (λk=>h k.form) (by decide);by_cases g1:0<=b.flags/\b.flags<=7
  case neg=>
   have gJ:b.flags<0\/7<b.flags:=by omega
   simp[g1,gJ];exact Om (λh=>g1 h.1.1)
  have gJ:¬(b.flags<0\/7<b.flags):=by omega
  by_cases g2:cJ .and .i64 b.flags 4=0\/¬b.payee=-1
  case neg=>
   have pz:¬cJ .and .i64 b.flags 4=0/\b.payee=-1:=by simpa using g2
   first
        |exact absurd pz.2 hp
        |(simp[g1,gJ,pz]
          exact Om (λh=>g2 h.1.2))
  have g3:(b.payee=-1->cJ .and .i64 b.flags 4=0):=λe=>g2.resolve_right (λh=>h e);simp[g1,gJ,hp,g3];refine⟨_,axH b,?_⟩;cases j9:No b
  .simp;exact Om (λh=>by have:=h.2;rw[j9] at this;cases this)
  have hf:=fin ue Fo h8 h9 ⟨⟨g1,g2⟩,j9⟩ Fu;simp;by_cases e:b.tenor.kind=4
  .simp[e] at hf ⊢;exact⟨_,Fm,hf⟩
  .simp[e] at hf ⊢;exact hf
def C1 (f:File)(i part:Int):Bool:=decide (i=0)||decide ((eg f i).part=part)
def aen (f:File)(i part:Int)(h:i=0\/(0<=i/\i<f.signs.length)):au T 99 [cr f,.int i,.int part] (.bool (C1 f i part)):=by
 refine zyv 85 avr ?_;unfold C1;by_cases h0:i=0
 .simp[Nv,h0]
 .obtain⟨h1,h2⟩:=h.resolve_left h0;have h3:i.toNat<f.signs.length:=by omega
  simp[Nv,h0,h1,h2,h3,eg]
def Ie (f:File)(i:Int)(kinds:List Int):Bool:=wi (eg f i).for_ 0 (i-1)&&(C1 f (eg f i).for_ (eg f i).part&&hasB kinds (eg f (eg f i).for_).kind)
def aso (f:File)(i:Int)(kinds:List Int)(h:0<=i/\i<f.signs.length)(hl:f.signs.length<=100000)(hk:kinds.length<=100):au T 98 [cr f,.int i,ints kinds] (.bool (Ie f i kinds)):=by
 refine zyv 84 avm ?_;have h1:i.toNat<f.signs.length:=by omega
 have hw:i64.wrap (i-1)=i-1:=bu (by omega);have hs:eg f i=f.signs[i.toNat]:=by simp[eg,h1]
 unfold Ie;rw[hs];simp[Vs,h,h1,hw];refine⟨_,fN _ _ _,?_⟩;cases hb:wi f.signs[i.toNat].for_ 0 (i-1)
 .simp
 .have bp:0<=f.signs[i.toNat].for_/\f.signs[i.toNat].for_<f.signs.length:=by
   simp[wi] at hb;omega
  have h2:f.signs[i.toNat].for_.toNat<f.signs.length:=by omega
  have fe:eg f f.signs[i.toNat].for_=f.signs[f.signs[i.toNat].for_.toNat]:=by simp[eg,h2]
  rw[fe];simp;refine⟨_,aen f _ _ (.inr bp),?_⟩;cases bZ:C1 f f.signs[i.toNat].for_ f.signs[i.toNat].part
  .simp
  simp[bp,h2];exact HH kinds _ (by omega)
def Zn (r:Realm)(b:Bill)(s:Sign)(B:List Int->Bool):Bool:=
 if s.kind=0 then((((decide (s.who=b.drawer)&&decide (s.sum=0))&&decide (cJ .or .i64 s.flags 1=1))&&decide (s.part=0))&&decide (s.day=b.day))&&decide (s.city=b.city)
 else if s.kind=1 then decide (s.who=b.drawee)&&(wi s.sum 1 1099511627776&&decide (s.flags=0))
 else if s.kind=2 then((wi s.to (-1) ((r.firms.length:Int)-1)&&decide (s.sum=0))&&wi s.flags 0 7)&&decide (cJ .and .i64 s.flags 6≠6)
 else if s.kind=3 then(decide (s.sum=0)&&decide (s.flags=0))&&B [0,1,2,4]
 else if s.kind=4 then((wi s.sum 1 1099511627776&&decide (s.flags=0))&&decide (s.who≠b.drawee))&&B [0,2]
 else false
def PK (r:Realm)(b:Bill)(i:Nat)(s:Sign)(B:List Int->Bool):Bool:=
 if ¬(i=0↔s.kind=0)\/(¬s.kind=2/\¬s.to=-1) then false
 else if(¬s.kind=3/\¬s.kind=4)/\¬s.for_=-1 then false
 else Zn r b s B
def J1 (r:Realm)(f:File)(i:Nat):Bool:=PK r f.bill i (f.signs.getD i default) (Ie f i)
def asq (r:Realm)(hr:Small r)(f:File)(i:Nat)(h:i<f.signs.length)(hl:f.signs.length<=100000):au T 76 [bB r,cr f,.int i] (.bool (J1 r f i)):=by
 refine zyv 83 avo ?_;have kM:=hr.firms;have hw:i64.wrap ((r.firms.length:Int)-1)=(r.firms.length:Int)-1:=bu (by omega);have hs:f.signs.getD i default=f.signs[i]:=by simp[h]
 have Qe:=λks hk=>aso f i ks ⟨by omega,by omega⟩ hl hk;unfold J1;rw[hs];generalize hB:Ie f i=B at Qe ⊢;generalize hX:PK r f.bill i f.signs[i] B=X;simp[Vu,h];generalize f.signs[i]=s at*;unfold PK at hX;by_cases h1:¬(i=0↔s.kind=0)\/(¬s.kind=2/\¬s.to=-1)
 .rw[if_pos h1] at hX ⊢;exact hX.symm
 rw[if_neg h1] at hX ⊢;by_cases h2:(¬s.kind=3/\¬s.kind=4)/\¬s.for_=-1
 .rw[if_pos h2] at hX ⊢;exact hX.symm
 rw[if_neg h2] at hX ⊢;refine⟨_,fN _ _ _,?_⟩;unfold Zn at hX;by_cases k0:s.kind=0
 .rw[if_pos k0] at hX ⊢;rw[<-hX];by_cases a:(((s.who=f.bill.drawer/\s.sum=0)/\cJ BinOp.or IntKind.i64 s.flags 1=1)/\s.part=0)/\s.day=f.bill.day
  .simp[a]
  .rw[if_neg a]
   congr 1
   rw[eq_comm,XA];intro e;simp at e;exact a e.1
 rw[if_neg k0] at hX ⊢;by_cases k1:s.kind=1
 .rw[if_pos k1] at hX ⊢;rw[<-hX];by_cases a:s.who=f.bill.drawee<;>cases wi s.sum 1 1099511627776<;>simp[a]
 rw[if_neg k1] at hX ⊢;by_cases k2:s.kind=2
 .rw[if_pos k2] at hX ⊢;rw[<-hX,hw];refine⟨_,fN _ _ _,?_⟩;cases wi s.to (-1) ((r.firms.length:Int)-1)
  .simp
  by_cases a:s.sum=0
  case neg=>simp[a]
  simp[a];refine⟨_,fN _ _ _,?_⟩;cases wi s.flags 0 7<;>simp
 rw[if_neg k2] at hX ⊢;by_cases k3:s.kind=3
 .rw[if_pos k3] at hX ⊢;rw[<-hX];by_cases a:s.sum=0/\s.flags=0
  case neg=>
   rw[if_neg a,if_neg a]
   congr 1
   rw[eq_comm,XA];intro e;simp at e;exact a e.1
  rw[if_pos a];refine⟨_,Qe [0,1,2,4] (by decide),?_⟩;simp[a]
 rw[if_neg k3] at hX ⊢;by_cases k4:s.kind=4
 .rw[if_pos k4] at hX ⊢;rw[<-hX];cases wi s.sum 1 1099511627776
  .simp
  by_cases a:s.flags=0/\¬s.who=f.bill.drawee
  case neg=>
   simp[a]
  simp[a];exact Qe [0,2] (by decide)
 rw[if_neg k4] at hX ⊢;exact hX.symm
def vI (f:File)(i:Nat):Int:=if i=0 then f.bill.day else(f.signs.getD (i-1) default).day
def ND (f:File)(i:Nat)(s:Sign):Bool:=(f.signs.take i).any λx=>(decide (s.kind=1)&&decide (x.kind=1))&&decide (x.part=s.part)
def Hj (r:Realm)(f:File)(i:Nat):Int:=
 let s:=f.signs.getD i default
 if wi s.part 0 (f.bill.parts-1)=false then 15
 else if aJ s.who r.firms.length=false\/aJ s.city r.cities.length=false then 1
 else if wi s.day (vI f i) 100000=false\/(i=0/\¬s.day=vI f i) then 13
 else if J1 r f i=false then 14
 else if ND f i s=true then 5 else 0
def aem (r:Realm)(hr:Small r)(f:File)(hp:1<=f.bill.parts/\f.bill.parts<=4)(i:Nat)(h:i<f.signs.length)(hl:f.signs.length<=100000):au T 43 [bB r,cr f,.int i] (.int (Hj r f i)):=by
 refine zyv 81 avq ?_;have kM:=hr.firms;have Z8:=hr.cities;have eN:i64.wrap ((r.firms.length:Int)-1)=(r.firms.length:Int)-1:=bu (by omega);have fL:i64.wrap ((r.cities.length:Int)-1)=(r.cities.length:Int)-1:=bu (by omega);have Rw:i64.wrap (f.bill.parts-1)=f.bill.parts-1:=bu (by omega);have hs:f.signs.getD i default=f.signs[i]:=by simp[h]
 generalize hX:Hj r f i=X;unfold Hj at hX;simp only[hs] at hX;simp[Vw,h,eN,fL,Rw];refine⟨_,fN _ _ _,?_⟩;cases a1:wi f.signs[i].part 0 (f.bill.parts-1)
 .simpa [a1] using hX
 simp[a1] at hX ⊢;refine⟨_,fN _ _ _,?_⟩;rw[BV] at hX;cases a2:wi f.signs[i].who 0 ((r.firms.length:Int)-1)
 .simpa [a2] using hX
 simp[a2] at hX ⊢;refine⟨_,fN _ _ _,?_⟩;rw[BV] at hX;cases a3:wi f.signs[i].city 0 ((r.cities.length:Int)-1)
 .simpa [a3] using hX
 simp[a3] at hX ⊢;refine⟨by omega,?_⟩;have KU:min i f.signs.length=i:=by omega
 refine aP.forRounds i (λk=>[.int (vI f k),.bool ((f.signs.take k).any λx=>(decide (f.signs[i].kind=1)&&decide (x.kind=1))&&decide (x.part=f.signs[i].part)),.int k]) (λ_=>[]) ?_ (λk hk=>?_) ?_
 .simp[vI]
 .have hw:=br hk (by omega);have bM:k<f.signs.length:=by omega
  have hf:vI f (k+1)=f.signs[k].day:=by simp[vI,bM]
  rw[ql bM,NP];generalize ((f.signs.take k).any λx=>(decide (f.signs[i].kind=1)&&decide (x.kind=1))&&decide (x.part=f.signs[i].part))=A;simp[afo,MB,hk,bM,h,hw,hf,KU];cases A
  .by_cases e1:f.signs[i].kind=1<;>by_cases e2:f.signs[k].kind=1<;>simp[e1,e2]
  .simp
 .have ht:ND f i f.signs[i]=true↔∃x,x∈List.take i f.signs/\(f.signs[i].kind=1/\x.kind=1)/\x.part=f.signs[i].part:=by simp[ND]
  simp[afo,MB,KU,h];refine⟨_,fN _ _ _,?_⟩;by_cases a4:wi f.signs[i].day (vI f i) 100000=false\/(i=0/\¬f.signs[i].day=vI f i)
  .rw[if_pos a4] at hX;rw[if_pos (by simpa using a4)];exact hX
  rw[if_neg a4] at hX;rw[if_neg (by simpa using a4)];refine⟨_,asq r hr f i h hl,?_⟩;cases a5:J1 r f i
  .simpa [a5] using hX
  simp[a5] at hX;simp only[aju,if_true];rw[<-hX];by_cases a6:ND f i f.signs[i]=true
  .rw[if_pos a6,if_pos (ht.1 a6)]
  .rw[if_neg a6,if_neg (λx=>a6 (ht.2 x))]
def H6 (a:Act)(to at_ own:Bool):Bool:=
 if a.kind=0\/a.kind=1\/a.kind=2 then(to&&decide (a.at_=-1))&&decide (a.sum=0)
 else if a.kind=3\/a.kind=4\/a.kind=5 then((to&&decide (a.at_=-1))&&wi a.sum 0 1099511627776)&&wi a.form 0 1
 else if a.kind=6 then(to&&own)&&wi a.sum 1 1099511627776
 else if a.kind=9 then(decide (a.to=-1)&&own)&&decide (a.sum=0)
 else(decide (a.to=-1)&&at_)&&decide (a.sum=0)
def Dq (f:File)(a:Act):Bool:=aJ a.at_ f.signs.length&&C1 f a.at_ a.part
def SU (f:File)(a:Act):Bool:=Dq f a&&decide ((eg f a.at_).who=a.who)
def vA (r:Realm)(f:File)(a:Act):Bool:=
 if aJ a.who r.firms.length=false\/(¬a.kind=4/\¬a.form=0) then false else H6 a (aJ a.to r.firms.length) (Dq f a) (SU f a)
def asl (r:Realm)(hr:Small r)(f:File)(a:Act)(hl:f.signs.length<=100000):au T 77 [bB r,cr f,kG a] (.bool (vA r f a)):=by
 refine zyv 87 avk ?_;have kM:=hr.firms;have eN:i64.wrap ((r.firms.length:Int)-1)=(r.firms.length:Int)-1:=bu (by omega);have fL:i64.wrap ((f.signs.length:Int)-1)=(f.signs.length:Int)-1:=bu (by omega);generalize hX:vA r f a=X;unfold vA SU Dq at hX;simp[Vq,eN,fL];refine⟨_,fN _ _ _,?_⟩;rw[<-BV];have qU:=fN a.to 0 ((r.firms.length:Int)-1);have Fu:=fN a.who 0 ((r.firms.length:Int)-1);rw[<-BV] at qU Fu;generalize aJ a.to r.firms.length=tt at*;generalize aJ a.who r.firms.length=ww at*;have fin:∀at_ own:Bool,(if ww=false\/(¬a.kind=4/\¬a.form=0) then false else H6 a tt at_ own)=X->
  if ww=false\/(¬a.kind=4/\¬a.form=0) then X=false
  else if a.kind=0\/a.kind=1\/a.kind=2 then(if tt=true/\a.at_=-1 then D.bool (decide (a.sum=0)) else D.bool false)=D.bool X
  else if a.kind=3\/a.kind=5\/a.kind=4 then
        if tt=true/\a.at_=-1 then
         ∃d,au (gr tab ext) 44 [D.int a.sum,D.int 0,D.int 1099511627776] d/\
          if(tt=true/\a.at_=-1)/\d.b=true then
             ∃DO,au (gr tab ext) 44 [D.int a.form,D.int 0,D.int 1] DO/\(if(tt=true/\a.at_=-1)/\d.b=true then DO else D.bool false)=D.bool X
          else(if(tt=true/\a.at_=-1)/\d.b=true then D.none else D.bool false)=D.bool X
        else D.bool false=D.bool X
  else if a.kind=6 then
        if tt=true/\own=true then ∃DO,au (gr tab ext) 44 [D.int a.sum,D.int 1,D.int 1099511627776] DO/\(if tt=true/\own=true then DO else D.bool false)=D.bool X
        else(if tt=true/\own=true then D.none else D.bool false)=D.bool X
  else if a.kind=9 then(if a.to=-1/\own=true then D.bool (decide (a.sum=0)) else D.bool false)=D.bool X
  else(if a.to=-1/\at_=true then D.bool (decide (a.sum=0)) else D.bool false)=D.bool X:=by
  intro at_ own hX;by_cases p:ww=false\/(¬a.kind=4/\¬a.form=0)
  .rw[if_pos p] at hX ⊢;exact hX.symm
  rw[if_neg p] at hX ⊢;unfold H6 at hX;by_cases k0:a.kind=0\/a.kind=1\/a.kind=2
  .rw[if_pos k0] at hX ⊢;rw[<-hX];by_cases e:tt=true/\a.at_=-1
   .simp[e]
   .rw[if_neg e];cases tt<;>simp at e ⊢;simp[e]
  rw[if_neg k0] at hX ⊢;by_cases k3:a.kind=3\/a.kind=4\/a.kind=5
  .rw[if_pos k3] at hX;rw[if_pos (by omega),<-hX];by_cases e:tt=true/\a.at_=-1
   .rw[if_pos e];refine⟨_,fN _ _ _,?_⟩;cases wi a.sum 0 1099511627776
    .simp
    .simp[e];exact fN _ _ _
   .rw[if_neg e];cases tt<;>simp at e ⊢;simp[e]
  rw[if_neg k3] at hX;rw[if_neg (by omega)];by_cases k6:a.kind=6
  .rw[if_pos k6] at hX ⊢;rw[<-hX];by_cases e:tt=true/\own=true
   .rw[if_pos e];refine⟨_,fN _ _ _,?_⟩;simp[e]
   .rw[if_neg e,if_neg e];cases tt<;>cases own<;>simp at e ⊢
  rw[if_neg k6] at hX ⊢;by_cases k9:a.kind=9
  .rw[if_pos k9] at hX ⊢;rw[<-hX];cases own<;>by_cases e:a.to=-1<;>simp[e]
  rw[if_neg k9] at hX ⊢;rw[<-hX];cases at_<;>by_cases e:a.to=-1<;>simp[e]
 cases h1:aJ a.at_ f.signs.length
 .have hf:=fin false false (by simpa [h1] using hX);simp at hf ⊢;refine⟨_,qU,_,Fu,?_⟩;simpa using hf
 have da:0<=a.at_/\a.at_<f.signs.length:=by simpa [aJ] using h1
 have h2:a.at_.toNat<f.signs.length:=by omega
 have hs:eg f a.at_=f.signs[a.at_.toNat]:=by simp[eg,h2]
 simp[da];refine⟨_,aen f _ _ (.inr da),_,qU,_,Fu,?_⟩;rw[h1,hs] at hX;have hf:=fin _ _ hX;cases h3:C1 f a.at_ a.part
 .rw[h3] at hf;simpa using hf
 .rw[h3] at hf;simpa [h2] using hf
def LD (a b:Int):(if a<b then b else a)=max a b:=by split<;>omega
def R4 (a b:Int):(if a<b then D.int b else D.int a)=D.int (max a b):=by
 rw[<-LD];split<;>rfl
def RM (f:File)(i:Nat)(a:Act):Int:=
 let x:=if a.at_=-1 then f.bill.day else max f.bill.day (eg f a.at_).day
 if i=0 then x else max x (f.acts.getD (i-1) default).day
def vB (r:Realm)(f:File)(i:Nat):Int:=
 let a:=f.acts.getD i default
 if wi a.part 0 (f.bill.parts-1)=false then 15
 else if aJ a.city r.cities.length=false\/wi a.kind 0 9=false then 1
 else if vA r f a=false then 14
 else if wi a.day (RM f i a) 100000=false then 13 else 0
def X3 {r:Realm}{f:File}{a:Act}(h:vA r f a=true)(hn:¬a.at_=-1):0<=a.at_/\a.at_<f.signs.length:=by
 unfold vA at h;split at h
 .cases h
 have key:Dq f a=true->0<=a.at_/\a.at_<f.signs.length:=λe=>by
  unfold Dq at e;simp only[aq] at e;simpa [aJ] using e.1
 unfold H6 SU at h
 repeat' split at h
 all_goals simp only[aq,decide_eq_true_eq] at h
 .exact absurd h.1.2 hn
 .exact absurd h.1.1.2 hn
 .exact key h.1.2.1
 .exact key h.1.2.1
 .exact key h.1.2
def asn (r:Realm)(hr:Small r)(f:File)(hp:1<=f.bill.parts/\f.bill.parts<=4)(hl:f.signs.length<=100000)(v5:f.acts.length<=100000):au T 45 [bB r,cr f] (.int (gw f.acts.length (vB r f))):=by
 refine zyv 86 avl ?_;have Z8:=hr.cities;have fL:i64.wrap ((r.cities.length:Int)-1)=(r.cities.length:Int)-1:=bu (by omega);have Rw:i64.wrap (f.bill.parts-1)=f.bill.parts-1:=bu (by omega);simp[Vr];refine xd f.acts.length (vB r f) (λk=>[.int 0,.int k]) (λ_=>[]) ?_ (λk hk ho=>?_) (λk hk ho hb=>?_) (λhj=>?_)
 .simp
 case' refine_2=>have hb:vB r f k=vB r f k:=rfl
 case' refine_3=>rw[hb]
 case refine_4=>simp[afm,Mz,hj]
 all_goals
  have hw:=br hk (by omega);have hs:f.acts.getD k default=f.acts[k]:=by simp[hk]
  clear hb;generalize hX:vB r f k=X at*;unfold vB at hX;simp only[hs] at hX;simp[afm,Mz,hk,fL,Rw,hw];refine⟨_,fN _ _ _,?_⟩;cases a1:wi f.acts[k].part 0 (f.bill.parts-1)
  .simp[a1] at hX ⊢
   first|exact hX|(exfalso;omega)
  simp[a1] at hX ⊢;refine⟨_,fN _ _ _,?_⟩;rw[BV] at hX;cases a2:wi f.acts[k].city 0 ((r.cities.length:Int)-1)
  .simp[a2] at hX ⊢
   first|exact hX|(exfalso;omega)
  simp[a2] at hX ⊢;refine⟨_,fN _ _ _,?_⟩;cases a3:wi f.acts[k].kind 0 9
  .simp[a3] at hX ⊢
   first|exact hX|(exfalso;omega)
  simp[a3] at hX ⊢;refine⟨_,asl r hr f f.acts[k] hl,?_⟩;cases a4:vA r f f.acts[k]
  .simp[a4] at hX ⊢
   first|exact hX|(exfalso;omega)
  simp[a4] at hX ⊢;unfold RM at hX;by_cases k0:k=0
  .subst k0;by_cases e1:f.acts[0].at_=-1
   .simp[e1] at hX;simp[e1];refine⟨_,fN _ _ _,?_⟩;split at hX
    .rename_i e;simp[e]
     first|exact hX|(exfalso;omega)
    .rename_i e
     first|(exfalso;omega)|simp[e]
   .obtain⟨h5,h6⟩:=X3 a4 e1;have h7:f.acts[0].at_.toNat<f.signs.length:=by omega
    have h8:eg f f.acts[0].at_=f.signs[f.acts[0].at_.toNat]:=by simp[eg,h7]
    simp[e1,h8] at hX;simp[e1,h5,h6,h7,R4,LD];refine⟨_,fN _ _ _,?_⟩;split at hX
    .rename_i e;simp[e]
     first|exact hX|(exfalso;omega)
    .rename_i e
     first|(exfalso;omega)|simp[e]
  .have bW:i64.wrap ((k:Int)-1)=(k:Int)-1:=bu (by omega);have bN:((k:Int)-1).toNat=k-1:=by omega
   have iQ:k-1<f.acts.length:=by omega
   have nz:0<k:=by omega
   by_cases e1:f.acts[k].at_=-1
   .simp[k0,e1,iQ] at hX;simp[e1,nz,bW,bN,iQ,R4,LD];refine⟨by omega,_,fN _ _ _,?_⟩;split at hX
    .rename_i e;simp[e]
     first|exact hX|(exfalso;omega)
    .rename_i e
     first|(exfalso;omega)|simp[e]
   .obtain⟨h5,h6⟩:=X3 a4 e1;have h7:f.acts[k].at_.toNat<f.signs.length:=by omega
    have h8:eg f f.acts[k].at_=f.signs[f.acts[k].at_.toNat]:=by simp[eg,h7]
    simp[k0,e1,iQ,h8] at hX;simp[e1,nz,bW,bN,iQ,h5,h6,h7,R4,LD];refine⟨by omega,_,fN _ _ _,?_⟩;split at hX
    .rename_i e;simp[e]
     first|exact hX|(exfalso;omega)
    .rename_i e
     first|(exfalso;omega)|simp[e]
def lW (a b:Int):Int:=if a<b then-1 else if b<a then 1 else 0
def abw (a:Int):au T 70 [.int a] (.bool false):=by
 refine zyv 90 au5 ?_;simp[Vc]
def HG (a b:Int):au T 38 [.int a,.int b] (.int (lW a b)):=by
 refine zyv 89 au3 ?_;simp[Va];refine⟨_,abw a,_,abw b,?_⟩;unfold lW;by_cases h1:a<b
 .simp[h1]
 by_cases h2:b<a<;>simp[h1,h2]
def XV (l:List Int)(hl:l.length<=100000):au T 37 [ints l] (.int (gw l.length λk=>l.getD k 0)):=by
 refine zyv 91 au4 ?_;simp[Vb];refine xd l.length (λk=>l.getD k 0) (λk=>[.int 0,.int k]) (λ_=>[]) ?_ (λk hk ho=>?_) (λk hk ho hb=>?_) (λhj=>?_)
 .simp
 .have hw:=br hk (by omega);have hx:l[k]=0:=by simpa [hk] using ho
  simp[TO,Gm,hk,hx,hw]
 .have hx:¬l[k]=0:=by simpa [hk] using ho
  simp only[aN] at hb ⊢;rw[hb];simp[TO,Gm,hk,hx]
 .simp only[aN] at hj ⊢;rw[hj];simp[TO,Gm]
def or2 (a b:Int):(gw 2 λk=>[a,b].getD k 0)=if a=0 then b else a:=by
 have e:List.range 2=[0,1]:=rfl;unfold gw;rw[e];by_cases ha:a=0<;>by_cases hb:b=0<;>simp[ha,hb]
def ct (x y:Fact):Prop:=x.at_<y.at_\/(x.at_=y.at_/\x.kind<y.kind)
instance (x y:Fact):Decidable (ct x y):=by unfold ct;infer_instance
def ah4 (x y:Fact):0<=(if lW x.at_ y.at_=0 then lW x.kind y.kind else lW x.at_ y.at_)↔¬ct x y:=by
 unfold lW ct
 repeat' split
 all_goals omega
def rX (f:File)(i:Nat):Int:=
 let x:=f.facts.getD i default
 if wi x.kind 0 4=false then 1 else if aJ x.at_ f.signs.length=false then 1 else if wi x.n 0 1=false then 1
 else if i=0 then 0 else if ct (f.facts.getD (i-1) default) x then 0 else 5
def asp (f:File)(hl:f.signs.length<=100000)(hlf:f.facts.length<=100000):au T 46 [cr f] (.int (gw f.facts.length (rX f))):=by
 refine zyv 88 avn ?_;have fL:i64.wrap ((f.signs.length:Int)-1)=(f.signs.length:Int)-1:=bu (by omega);simp[Vt];refine xd f.facts.length (rX f) (λk=>[.int 0,.int k]) (λ_=>[]) ?_ (λk hk ho=>?_) (λk hk ho hb=>?_) (λhj=>?_)
 .simp
 case' refine_2=>have hb:rX f k=rX f k:=rfl
 case' refine_3=>rw[hb]
 case refine_4=>simp[afn,MA,hj]
 all_goals
  have hw:=br hk (by omega);have hs:f.facts.getD k default=f.facts[k]:=by simp[hk]
  clear hb;generalize hX:rX f k=X at*;unfold rX at hX;simp only[hs] at hX;simp[afn,MA,hk,fL,hw];refine⟨_,fN _ _ _,?_⟩;cases a1:wi f.facts[k].kind 0 4
  .simp[a1] at hX ⊢
   first|exact hX|(exfalso;omega)
  simp[a1] at hX ⊢;refine⟨_,fN _ _ _,?_⟩;rw[BV] at hX;cases a2:wi f.facts[k].at_ 0 ((f.signs.length:Int)-1)
  .simp[a2] at hX ⊢
   first|exact hX|(exfalso;omega)
  simp[a2] at hX ⊢;refine⟨_,fN _ _ _,?_⟩;cases a3:wi f.facts[k].n 0 1
  .simp[a3] at hX ⊢
   first|exact hX|(exfalso;omega)
  simp[a3] at hX ⊢;by_cases k0:k=0
  .subst k0;simp at hX ⊢
   first|(exfalso;omega)|done
  .have bW:i64.wrap ((k:Int)-1)=(k:Int)-1:=bu (by omega);have bN:((k:Int)-1).toNat=k-1:=by omega
   have iQ:k-1<f.facts.length:=by omega
   simp[k0,iQ] at hX;simp[k0,bW,bN,iQ];refine⟨by omega,_,HG _ _,_,HG _ _,?_⟩;have ho:=XV [lW f.facts[k-1].at_ f.facts[k].at_,lW f.facts[k-1].kind f.facts[k].kind] (by simp);simp only[mA,tE] at ho;rw[or2] at ho;refine⟨_,ho,?_⟩;have ha:=ah4 f.facts[k-1] f.facts[k];generalize (if lW f.facts[k-1].at_ f.facts[k].at_=0 then lW f.facts[k-1].kind f.facts[k].kind else lW f.facts[k-1].at_ f.facts[k].at_)=n at*;clear ho;by_cases e:ct f.facts[k-1] f.facts[k]
   .have hn:¬0<=n:=λh=>ha.1 h e;simp[e] at hX;simp[hn]
    first|done|(exfalso;omega)
   .have hn:0<=n:=ha.2 e;simp[e] at hX;simp[hn]
    first|exact hX|(exfalso;omega)
def zU (f:File)(i:Nat):Int:=
 let x:=f.alters.getD i default
 if wi x.at_ ((if i=0 then 0 else(f.alters.getD (i-1) default).at_)+1) f.signs.length=false then 1 else if wi x.sum 1 1099511627776=false then 3 else 0
structure PaperOK (r:Realm) (f:File):Prop where
 full:(f.signs.length<=40/\f.alters.length<=4)/\f.acts.length<=100/\f.facts.length<=200
 bill:BillOK r f.bill
 ne:f.signs≠[]
 signs:gw f.signs.length (Hj r f)=0
 alters:gw f.alters.length (zU f)=0
 acts:gw f.acts.length (vB r f)=0
 facts:gw f.facts.length (rX f)=0
def asj (r:Realm)(hs:Small r)(f:File)(P0:f.OK):∃d,au T 21 [bB r,cr f] d/\qj (PaperOK r f) d:=by
 refine au.ex_of_tree rfl aij avj ?_;simp[Vp];by_cases hf:(f.signs.length<=40/\f.alters.length<=4)/\f.acts.length<=100/\f.facts.length<=200
 case neg=>
  rw[if_pos (by omega)];exact .no (λh=>hf h.full) (by decide)
 rw[if_neg (by omega)];obtain⟨d,hb,e,rfl,he⟩:=axG r hs f.bill;refine⟨_,hb,?_⟩;by_cases e0:e=0
 case neg=>
  simp[e0];exact .no (λh=>e0 (he.2 h.bill)) e0
 have Ku:=he.1 e0;simp[e0];by_cases aB:f.signs=[]
 .simp[aB];exact .no (λh=>h.ne aB) (by decide)
 simp[aB];refine xd f.signs.length (Hj r f) (λk=>[.int 0,.int k]) (λ_=>[]) ?_ (λk hk ho=>?_) (λk hk ho hb=>?_) (λhj=>?_)
 .simp
 .have hw:=br hk (by omega);simp[TR,Gp,hk,hw];refine⟨_,aem r hs f Ku.parts k hk (by omega),?_⟩;simp[ho]
 .simp[TR,Gp,hk];refine⟨_,aem r hs f Ku.parts k hk (by omega),?_⟩;simp[ho];exact .no (λh=>ho (by rw[<-hb];exact h.signs)) ho
 simp[TR,Gp];have jf:∀k,k<f.alters.length->(∀j,j<k->zU f j=0)->i64.wrap ((if k=0 then 0 else(f.alters.getD (k-1) default).at_)+1)=(if k=0 then 0 else(f.alters.getD (k-1) default).at_)+1:=by
  intro k hk hj;refine bu ?_;by_cases k0:k=0
  .rw[if_pos k0];omega
  .rw[if_neg k0];have h1:=hj (k-1) (by omega);have bW:k-1<f.alters.length:=by omega
   have h2:=(P0.2.2.1.2 _ (cY bW)).1;have h3:f.alters.getD (k-1) default=f.alters[k-1]:=by simp[bW]
   unfold zU at h1;rw[h3] at h1 ⊢;simp only at h1;generalize (if k-1=0 then(0:Int) else(f.alters.getD (k-1-1) default).at_)=L0 at h1;split at h1
   .cases h1
   .rename_i hh;simp[wi] at hh;unfold aX at h2;omega
 refine aP.scan f.alters.length (λk=>zU f k=0) (λk=>[.int 0,.int (if k=0 then 0 else(f.alters.getD (k-1) default).at_),.int k]) (λ_=>[]) ?_ (λk hk yt ho=>?_) (λk hk yt ho=>?_) (λny=>?_)
 .simp
 .have hw:=br hk (by omega);have hl:=jf k hk yt;generalize hL:(if k=0 then 0 else(f.alters.getD (k-1) default).at_)=L at*;have hs:f.alters.getD k default=f.alters[k]:=by simp[hk]
  unfold zU at ho;simp only[hs,hL] at ho;simp[TS,Gq,hk,hl];refine⟨_,fN _ _ _,?_⟩;cases a1:wi f.alters[k].at_ (L+1) f.signs.length
  .simp[a1] at ho
  simp[a1] at ho ⊢;refine⟨_,fN _ _ _,?_⟩;simp[ho,hw]
 .have hl:=jf k hk yt;have EM:=PH hk yt ho;generalize hL:(if k=0 then 0 else(f.alters.getD (k-1) default).at_)=L at*;have hs:f.alters.getD k default=f.alters[k]:=by simp[hk]
  have bad:∀e:Int,e≠0->qj (PaperOK r f) (.int e):=λe h=>.no (λh=>ho (by rw[<-EM];exact h.alters)) h;unfold zU at ho;simp only[hs,hL] at ho;simp[TS,Gq,hk,hl];refine⟨_,fN _ _ _,?_⟩;cases a1:wi f.alters[k].at_ (L+1) f.signs.length
  .simp;exact bad 1 (by decide)
  simp[a1] at ho ⊢;refine⟨_,fN _ _ _,?_⟩;simp[ho];exact bad 3 (by decide)
 have ny:=PJ ny;simp[TS,Gq];refine⟨_,asn r hs f Ku.parts (by omega) (by omega),?_⟩;by_cases e3:gw f.acts.length (vB r f)=0
 case neg=>
  simp[e3];exact .no (λh=>e3 h.acts) e3
 simp[e3];refine⟨_,asp f (by omega) (by omega),?_⟩;exact⟨_,rfl,λh=>⟨hf,Ku,aB,hj,ny,e3,h⟩,λh=>h.facts⟩
structure Hy (r:Realm) (f:File) (i:Nat) (a:Act):Prop where
 part:0<=a.part/\a.part<=f.bill.parts-1
 city:0<=a.city/\a.city<r.cities.length
 kind:0<=a.kind/\a.kind<=9
 fits:vA r f a=true
 day:RM f i a<=a.day/\a.day<=100000
def NN (n:Nat)(x:Fact):Prop:=wi x.kind 0 4=true/\aJ x.at_ n=true/\wi x.n 0 1=true
structure FactsOK (n:Nat) (l:List Fact):Prop where
 each:∀x,x∈l->NN n x
 sorted:l.Pairwise ct
def H8 {x y z:Fact}(h1:ct x y)(h2:ct y z):ct x z:=by unfold ct at*;omega
def asi {l:List Fact}(h:∀i (h1:i+1<l.length),ct (l[i]'(by omega)) l[i+1]):l.Pairwise ct:=by
 rw[zS];intro i j hi hj cK;obtain⟨d,rfl⟩:∃d,j=i+1+d:=⟨j-i-1,by omega⟩
 clear cK
 induction d with
 |zero=>exact h i hj
 |succ d ih=>exact H8 (ih (by omega)) (h (i+1+d) hj)
def PB {f:File}{i:Nat}(hi:i<f.facts.length):rX f i=0↔(NN f.signs.length f.facts[i]/\(i=0\/ct (f.facts.getD (i-1) default) f.facts[i])):=by
 have hs:f.facts.getD i default=f.facts[i]:=by simp[hi]
 unfold rX NN;simp only[hs];constructor
 .intro h;split at h
  .cases h
  rename_i a1;split at h
  .cases h
  rename_i a2;split at h
  .cases h
  rename_i a3;refine⟨⟨by simpa using a1,by simpa using a2,by simpa using a3⟩,?_⟩;split at h
  .rename_i a4;exact .inl a4
  split at h
  .rename_i a4;exact .inr a4
  .cases h
 .rintro⟨⟨a1,a2,a3⟩,h⟩;rw[a1,a2,a3];simp only[Bool.true_eq_false,if_false];rcases h with h|h
  .rw[if_pos h]
  .rw[if_pos h];split<;>rfl
def akx (f:File):gw f.facts.length (rX f)=0↔FactsOK f.signs.length f.facts:=by
 rw[J0];constructor
 .intro h;refine⟨λx hx=>?_,asi λi h1=>?_⟩
  .obtain⟨i,hi,rfl⟩:=gn hx;exact((PB hi).1 (h i hi)).1
  .have:=((PB h1).1 (h (i+1) h1)).2;rcases this with e|e
   .cases e
   .have hi:i<f.facts.length:=by omega
    simpa [hi] using e
 .intro h i hi;refine(PB hi).2 ⟨h.each _ (cY hi),?_⟩;by_cases e:i=0
  .exact .inl e
  .right;have cN:i-1<f.facts.length:=by omega
   have:=zS.1 h.sorted (i-1) i cN hi (by omega);simpa [cN] using this
def FI (x y:Fact):jQ x y=true↔ct y x:=by unfold jQ ct;simp
def qA (x y:Fact):dL x y=true↔ct x y:=by
 unfold dL ct;simp;constructor<;>rintro(h|h)
 .exact .inl h
 .exact .inr ⟨h.1.symm,h.2⟩
 .exact .inl h
 .exact .inr ⟨h.1.symm,h.2⟩
abbrev ard:Nat:=16
def ahQ (x:Fact)(k a:Int):au T 32 [fG x,.ref (.int k),.ref (.int a)] (.bool (mF k a x)):=by
 refine zyv 138 auY ?_;unfold mF;by_cases h1:x.kind=k<;>by_cases h2:x.at_=a<;>simp[U6,h1,h2]
def fx (k a n:Int):Fact:=⟨k,a,if n=0 then 0 else 1⟩
def ahR (x y:Fact):au T 36 [fG y,.ref (.int x.at_),.ref (.int x.kind)] (.bool (dL x y)):=by
 refine zyv 139 auZ ?_;simp[U7];refine⟨_,HG y.at_ x.at_,_,HG y.kind x.kind,_,XV [lW y.at_ x.at_,lW y.kind x.kind] (by simp),?_⟩;rw[show([lW y.at_ x.at_,lW y.kind x.kind]:List Int).length=2 from rfl,or2];simp;unfold dL lW;by_cases h1:y.at_<x.at_
 .have h2:¬x.at_<y.at_:=by omega
  have h3:¬y.at_=x.at_:=by omega
  simp[h1,h2,h3]
 by_cases h2:x.at_<y.at_
 .simp[h1,h2]
 have h3:y.at_=x.at_:=by omega
 by_cases h4:y.kind<x.kind
 .have h5:¬x.kind<y.kind:=by omega
  simp[h3,h4,h5]
 by_cases h5:x.kind<y.kind<;>simp[h3,h4,h5]
def XE (l:List Fact)(f:Nat)(caps:List D)(g:Nat->Bool)(hg:∀k (hk:k<l.length),au T f (fG l[k]::caps) (.bool (g k)))(hl:l.length<=4294967296):
 au T 34 [facts l,.clo f caps] (.int (kp l.length g)):=by
 refine zyv 137 awN ?_;simp[WE];refine .scan l.length (λk=>g k=false) (λk=>[.int 0,.int k]) (λ_=>[]) ?_ (λk hk hj ho=>?_) (λk hk hj ho=>?_) (λhj=>?_)
 .simp
 .have hw:=br hk hl;simp[Us,GX,hk,hw];refine⟨_,_,⟨rfl,rfl⟩,_,hg k hk,?_⟩;simp[ho,hw]
 .have he:=FB hk (by simpa using ho) hj;simp[Us,GX,hk,he];refine⟨_,_,⟨rfl,rfl⟩,_,hg k hk,?_⟩;simp[ho]
 .have he:=BX hj;simp[Us,GX,he]
def qa (f:File)(x:Fact):File:={f with facts:=my f.facts x}
def agm {α:Type}{p:α->Bool}{l:List α}(i:Nat)(h1:∀j (hj:j<l.length),j<i->p l[j]=true)(h2:∀j (hj:j<l.length),i<=j->p l[j]=false):l.filter p=l.take i:=by
 have e:l.filter p=(l.take i++l.drop i).filter p:=by rw[vq]
 rw[e,Dh,NT.2,zM.2,mz]
 .intro y hy hp;obtain⟨j,hj,rfl⟩:=gn hy;have bh:i+j<l.length:=by simp at hj;omega
  rw[List.getElem_drop,h2 (i+j) bh (by omega)] at hp;cases hp
 .intro y hy;obtain⟨j,hj,rfl⟩:=gn hy;have bh:j<l.length/\j<i:=by simp at hj;omega
  rw[HT];exact h1 j bh.1 bh.2
def agn {α:Type}{p:α->Bool}{l:List α}(i:Nat)(h1:∀j (hj:j<l.length),j<i->p l[j]=false)(h2:∀j (hj:j<l.length),i<=j->p l[j]=true):l.filter p=l.drop i:=by
 have e:l.filter p=(l.take i++l.drop i).filter p:=by rw[vq]
 rw[e,Dh,zM.2,NT.2,tG]
 .intro y hy;obtain⟨j,hj,rfl⟩:=gn hy;have bh:i+j<l.length:=by simp at hj;omega
  rw[List.getElem_drop];exact h2 (i+j) bh (by omega)
 .intro y hy hp;obtain⟨j,hj,rfl⟩:=gn hy;have bh:j<l.length/\j<i:=by simp at hj;omega
  rw[HT,h1 j bh.1 bh.2] at hp;cases hp
def R7 {x y:Fact}(h:ct x y):¬ct y x:=by unfold ct at*;omega
def ah5 {x y:Fact}(h1:¬ct x y)(h2:¬ct y x):y.kind=x.kind/\y.at_=x.at_:=by unfold ct at*;omega
def axB {l:List Fact}(hs:l.Pairwise ct)(x:Fact)(i:Nat)(hi:i<l.length)(h:l[i].kind=x.kind/\l[i].at_=x.at_):my l x=l.take i++[x]++l.drop (i+1):=by
 have hp:=zS.1 hs;have c1:∀y,ct y l[i]↔ct y x:=λy=>by unfold ct;rw[h.1,h.2]
 have c2:∀y,ct l[i] y↔ct x y:=λy=>by unfold ct;rw[h.1,h.2]
 have no:¬ct l[i] x:=λe=>by unfold ct at e;omega
 have no':¬ct x l[i]:=λe=>by unfold ct at e;omega
 have e1:l.filter (jQ x)=l.take i:=agm i (λj hj fq=>(FI x _).2 ((c1 _).1 (hp j i hj hi fq))) (λj hj cK=>by
  cases e:jQ x l[j] with
  |false=>rfl
  |true=>
   have e:=(FI x _).1 e;rcases XR cK with h'|rfl
   .exact absurd ((c1 _).2 e) (R7 (hp i j hi hj h'))
   .exact absurd e no)
 have e2:l.filter (dL x)=l.drop (i+1):=agn (i+1) (λj hj cK=>by
  cases e:dL x l[j] with
  |false=>rfl
  |true=>
   have e:=(qA x _).1 e;rcases XR (Nat.le_of_lt_succ cK) with h'|rfl
   .exact absurd ((c2 _).2 e) (R7 (hp j i hj hi h'))
   .exact absurd e no') (λj hj fq=>(qA x _).2 ((c2 _).1 (hp i j hi hj (by omega))))
 unfold my;rw[e1,e2]
def ahl {l:List Fact}(hs:l.Pairwise ct)(x:Fact)(j:Nat)(hj:j<=l.length)(hn:∀y,y∈l->¬(y.kind=x.kind/\y.at_=x.at_))(h1:∀i (hi:i<l.length),i<j->dL x l[i]=false)(h2:∀(hi:j<l.length),dL x l[j]=true):
 my l x=l.take j++[x]++l.drop j:=by
 have hp:=zS.1 hs
 have g2:∀i (hi:i<l.length),j<=i->dL x l[i]=true:=λi hi fq=>by
  have fX:j<l.length:=by omega
  rcases XR fq with h'|rfl
  .exact(qA x _).2 (H8 ((qA x _).1 (h2 fX)) (hp j i fX hi h'))
  .exact h2 hi
 have e1:l.filter (jQ x)=l.take j:=agm j (λi hi cK=>by
  have hg:=h1 i hi cK;refine(FI x _).2 ?_;refine xC λe=>?_;have fW:¬ct x l[i]:=λe'=>by rw[(qA x _).2 e'] at hg;cases hg
  exact hn _ (cY hi) (ah5 fW e)) (λi hi fq=>by
  cases e:jQ x l[i] with
  |false=>rfl
  |true=>exact absurd ((FI x _).1 e) (R7 ((qA x _).1 (g2 i hi fq))))
 have e2:l.filter (dL x)=l.drop j:=agn j h1 g2;unfold my;rw[e1,e2]
def Nc (f:File)(k a n:Int):Hh [cr f,.int k,.int a,.int n]=cr (qa f (fx k a n)):=by
 have e:(facts (my f.facts (fx k a n)):D)=.list ((f.facts.map fG).filter (λy=>decide ((y.c 1).i<a)||(decide ((y.c 1).i=a)&&decide ((y.c 0).i<k)))++[xf k a n]++(f.facts.map fG).filter (λy=>decide (a<(y.c 1).i)||(decide ((y.c 1).i=a)&&decide (k<(y.c 0).i)))):=by
  unfold facts my;rw[List.filter_map,List.filter_map,mB,mB];rfl
 show D.agg _=D.agg _;unfold wd;rw[show facts (qa f (fx k a n)).facts=_ from e];rfl
def UN {f:File}(hs:f.facts.Pairwise ct)(hl:f.facts.length<=100000)(k a n:Int):au T ard [cr f,.int k,.int a,.int n] (cr (qa f (fx k a n))):=by
 have hI:∀l:List Fact,l.length<=100000->au T 34 [facts l,.clo 32 [.ref (.int k),.ref (.int a)]] (.int (kp l.length λi=>mF k a (l.getD i default))):=λl hl=>
  XE l _ _ _ (λi hi=>by simpa [hi] using ahQ l[i] k a) (by omega)
 have hJ:au T 34 [facts f.facts,.clo 36 [.ref (.int a),.ref (.int k)]] (.int (kp f.facts.length λi=>dL (fx k a n) (f.facts.getD i default))):=
  XE f.facts _ _ _ (λi hi=>by have:=ahR (fx k a n) f.facts[i];simpa [hi,fx] using this) (by omega)
 refine au.of_ext (g:=CW) rfl ?_;obtain⟨n0,h0⟩:=hI f.facts hl;obtain⟨n2,h2⟩:=hJ;have fp:(cr f).cells[18]?=some (.list (f.facts.map fG)):=rfl;have hp:=zS.1 hs
 have key:∀m,XX (T m) [cr f,.int k,.int a,.int n] (Hh [cr f,.int k,.int a,.int n])->CW (T m) [cr f,.int k,.int a,.int n]=some (cr (qa f (fx k a n))):=λm h=>by
  unfold CW;rw[if_pos h,Nc]
 rcases uC f.facts.length (λi=>mF k a (f.facts.getD i default)) with⟨e1,e2⟩|⟨i,hi,e1,e2,e3⟩
 .rw[e1] at h0
  have hn:∀y,y∈f.facts->¬(y.kind=(fx k a n).kind/\y.at_=(fx k a n).at_):=λy hy e=>by
   obtain⟨i,hi,rfl⟩:=gn hy;have:=e2 i hi;simp[hi,mF] at this;exact this e.1 e.2
  refine⟨max n0 n2,λm hm=>key m ?_⟩;refine⟨_,k,a,n,f.facts.map fG,rfl,fp,by rw[gp];omega,.inr ⟨h0 m (by omega),?_⟩⟩;rw[gp];rcases uC f.facts.length (λi=>dL (fx k a n) (f.facts.getD i default)) with⟨g1,g2⟩|⟨j,hj,g1,g2,g3⟩
  .rw[g1] at h2;refine⟨f.facts.length,-1,h2 m (by omega),.inl ⟨by omega,rfl⟩,?_⟩;have hw:=ahl hs (fx k a n) f.facts.length (aY _) hn (λi hi _=>by have:=g2 i hi;simpa [hi] using this) (λh=>by omega);rw[Nc];show D.agg _=D.agg _;unfold wd;unfold qa;simp only[facts,hw,mB,XP,NX];rfl
  .rw[g1] at h2;refine⟨j,j,h2 m (by omega),.inr ⟨rfl,by omega⟩,?_⟩;have hw:=ahl hs (fx k a n) j (by omega) hn (λi hi cK=>by have:=g3 i cK;simpa [hi] using this) (λh=>by simpa [h] using g2);rw[Nc];show D.agg _=D.agg _;unfold wd;unfold qa;simp only[facts,hw,mB,XP,NX];rfl
 .rw[e1] at h0;have hf:f.facts[i].kind=k/\f.facts[i].at_=a:=by simpa [hi,mF] using e2
  obtain⟨n1,h1⟩:=hI (f.facts.drop (i+1)) (by rw[tD];omega)
  have yE:kp (f.facts.drop (i+1)).length (λj=>mF k a ((f.facts.drop (i+1)).getD j default))=-1:=by
   refine BX λj hj=>?_;have bh:i+1+j<f.facts.length:=by rw[tD] at hj;omega
   have hah:=hp i (i+1+j) hi bh (by omega);have hg:(f.facts.drop (i+1)).getD j default=f.facts[i+1+j]:=by simp[bh]
   rw[hg];unfold ct at hah;simp[mF];omega
  rw[yE] at h1;refine⟨max n0 n1,λm hm=>key m ?_⟩;refine⟨_,k,a,n,f.facts.map fG,rfl,fp,by rw[gp];omega,.inl ⟨i,by rw[gp];exact hi,h0 m (by omega),?_,?_⟩⟩
  .have:=h1 m (by omega);unfold facts at this;rw[NX] at this;exact this
  .have hw:=axB hs (fx k a n) i hi hf;rw[Nc];show D.agg _=D.agg _;unfold wd;unfold qa;simp only[facts,hw,mB,XP,NX];rfl
def Pn (x y:Said):Int:=
 if(x.err=0/\x.cell.known=false)\/(y.err=0/\y.cell.known=false) then 2
 else if ¬(x.err=0↔y.err=0)\/(x.err=0/\x.cell.n≠y.cell.n) then 1 else 0
def ln (r:Realm)(a b q:Int)(c:Case):Int:=Pn (oc r a q c) (oc r b q c)
def HI (r:Realm)(hr:Right r)(a b q:Int)(c:Case)(hf:FewS c.file):au T 13 [bB r,.int a,.int b,.int q,cq c] (.int (ln r a b q c)):=by
 refine zyv 5 auX ?_;simp[U5];refine⟨_,Ya r hr a q c hf,_,Ya r hr b q c hf,?_⟩;unfold ln Pn;generalize oc r a q c=x;generalize oc r b q c=y;by_cases h1:x.err=0<;>by_cases h2:y.err=0<;>cases h3:x.cell.known<;>cases h4:y.cell.known<;>by_cases h5:x.cell.n=y.cell.n<;>simp[h1,h2,h3,h4,h5]
end Rm
