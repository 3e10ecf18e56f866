import Derived.Test.YtnkkihnmnfihnaaGreatDoorMAP
open Go.IntKind (i64)
set_option linter.all false
namespace Rm
open Go Go.Proofs Cx
def rX (i day:Int)(a:Act):Bool:=decide (a.kind=7)&&decide (a.at_=i)&&decide (a.day<=day)
def xx (l:List Act)(i day:Int):Bool:=l.any (rX i day)
def aiI (i day:Int)(l:List Act):(eu (.int i) (jy day l [])).getD (.bool false)=.bool (xx l i day):=by
 have key:∀(l:List Act) (es:List (D×D)) (b:Bool),(∀e,e∈es->∃n:Int,e.1=.int n)->(eu (.int i) es).getD (.bool false)=.bool b->(eu (.int i) (jy day l es)).getD (.bool false)=.bool (b||l.any (rX i day)):=by
  intro l
  induction l with
  |nil=>intro es b _ h;simpa [jy] using h
  |cons a l ih=>
   intro es b hk h;have h1:∀e,e∈(if a.kind=7/\a.day<=day then dj (.int a.at_) (.bool true) es else es)->∃n:Int,e.1=.int n:=by
        intro e he;split at he
        .rcases agD _ _ _ _ he with h'|h'
         .exact⟨_,h'⟩
         .exact hk e h'
        .exact hk e he
   have h2:(eu (.int i) (if a.kind=7/\a.day<=day then dj (.int a.at_) (.bool true) es else es)).getD (.bool false)=.bool (b||rX i day a):=by
        split
        .rename_i hc;rw[adK _ _ _ _ hk];by_cases hi:i=a.at_
         .simp[hi,rX,hc]
         .rw[if_neg hi,h];simp[rX,vP hi]
        .rename_i hc;rw[h];have:rX i day a=false:=by
          simp[rX];intro h7 _;have:¬a.day<=day:=λhd=>hc ⟨h7,hd⟩;omega
         rw[this,se]
   have:=ih _ _ h1 h2;rw[show jy day (a::l) es=jy day l (if a.kind=7/\a.day<=day then dj (.int a.at_) (.bool true) es else es) from rfl,this,List.any_cons,Bool.or_assoc]
 simpa [xx] using key l [] false (λ_ h=>by cases h) rfl
def Wd (f:File)(i day:Int):Aa f i day=(aw i f.signs.length&&xx f.acts i day):=by
 unfold Aa;rw[aiI];rfl
def ru (f:File)(part day:Int)(i:Nat)(s:Sign):Bool:=decide (s.kind=2)&&decide (s.part=part)&&decide (s.day<=day)&& !xx f.acts i day
def gp (f:File)(part day:Int):List Nat:=(List.range f.signs.length).filter λi=>ru f part day i (f.signs.getD i default)
def iP (f:File)(part day:Int)(k:Nat):List Nat:=(List.range k).filter λi=>ru f part day i (f.signs.getD i default)
def Qs (f:File)(part day:Int)(k:Nat):iP f part day (k+1)=iP f part day k++if ru f part day k (f.signs.getD k default) then[k] else[]:=by
 unfold iP;rw[OH,DU]
 congr 1
 have key:∀(p:Nat->Bool),List.filter p [k]=if p k then[k] else[]:=λp=>by
  cases h:p k<;>simp[List.filter,h]
 exact key _
def amt (f:File)(part day:Int){k n:Nat}(h:k<=n):∃r,iP f part day n=iP f part day k++r:=by
 induction n with
 |zero=>obtain rfl:k=0:=by omega
        exact⟨[],by simp⟩
 |succ n ih=>
  by_cases e:k=n+1
  .subst e;exact⟨[],by simp⟩
  .obtain⟨r,hr⟩:=ih (by omega);exact⟨r++_,by rw[Qs,hr,sm]⟩
def aaS (f:File)(part day:Int):iP f part day f.signs.length=gp f part day:=rfl
def ox (f:File)(i:Nat):D:=.tup [.int i,fy (f.signs.getD i default)]
def fT (f:File)(part day:Int):List (Int×Sign):=(gp f part day).map λ(i:Nat)=>((i:Int),f.signs.getD i default)
def KC (f:File)(part day:Int):(gp f part day).length<=f.signs.length:=by
 unfold gp;have:=tQ (λi=>ru f part day i (f.signs.getD i default)) (List.range f.signs.length);rw[DX] at this;exact this
def pH (day:Int)(a:Act):Bool:=(decide (a.kind=1)||decide (a.kind=3)||decide (a.kind=4))&&decide (a.day<=day)
def vW (day:Int)(x:Int×Bool)(a:Act):Int×Bool:=if pH day a then(if x.2=false\/a.day<x.1 then a.day else x.1,true) else x
def iN (day:Int)(acts:List Act):Int×Bool:=acts.foldl (vW day) (0,false)
def Dv (b fl:Int):Int:=if pM fl 2||b !=0 then 1 else if pM fl 4 then 2 else 0
def brk (c:Chain)(s:Sign):Bool:= !c.bearer&&s.who !=c.holder
def dE (p:Int×Bool)(c:Chain)(i:Int)(s:Sign):Chain:={signs:=c.signs++[i],holder:=s.to,broken:=c.broken,bearer:=s.to==-1,agent:=Dv c.agent s.flags,late:=if p.2&&decide (p.1<s.day) then c.late++[i] else c.late}
def j6 (p:Int×Bool)(c:Chain):List (Int×Sign)->Chain
 |[]=>c
 |x::l=>if brk c x.2 then {c with broken:=x.1} else j6 p (dE p c x.1 x.2) l
def kF (f:File):Chain:=⟨[],f.bill.payee,-1,f.bill.payee==-1,0,[]⟩
def kG (f:File)(part day:Int):Chain:=j6 (iN day f.acts) (kF f) (fT f part day)
def aav (p:Int×Bool):∀(l:List (Int×Sign)) (c:Chain),(j6 p c l).signs.length<=c.signs.length+l.length/\((j6 p c l).late.length<=c.late.length+l.length)
 |[],c=>by simp[j6]
 |x::l,c=>by
  unfold j6;split
  .exact⟨Nat.le_add_right _ _,Nat.le_add_right _ _⟩
  .have:=aav p l (dE p c x.1 x.2);have h1:(dE p c x.1 x.2).signs.length=c.signs.length+1:=by simp[dE]
   have h2:(dE p c x.1 x.2).late.length<=c.late.length+1:=by
        simp only[dE];split<;>simp
   simp only[lQ];omega
def aaw (f:File)(part day:Int):(kG f part day).signs.length<=f.signs.length/\(kG f part day).late.length<=f.signs.length:=by
 have h:=aav (iN day f.acts) (fT f part day) (kF f);have h2:=KC f part day;have h3:(fT f part day).length=(gp f part day).length:=by unfold fT;rw[fp]
 have h4:(kF f).signs.length=0/\(kF f).late.length=0:=⟨rfl,rfl⟩
 unfold kG;omega
def amu (f:File)(part day:Int):Qt [.ref (aS f),.ref (.int day),.ref (.int part)]=(gp f part day).map (ox f):=by
 have e1:((D.ref (aS f)).deref.c 15).l=f.signs.map fy:=rfl;have e2:((D.ref (aS f)).deref.c 17).l=f.acts.map ib:=rfl;unfold Qt gp;simp only[vJ,DV,e1,e2,fp]
 have key:∀i,i<f.signs.length->(f.signs.map fy).getD i .none=fy (f.signs.getD i default):=λi hi=>by
  simp[aL,hi]
 have hf:((List.range f.signs.length).filter λ(i:Nat)=>decide ((((f.signs.map fy).getD i .none).c 0).i=2)&&decide ((((f.signs.map fy).getD i .none).c 1).i=(D.ref (D.int part)).deref.i)&&decide ((((f.signs.map fy).getD i .none).c 6).i<=(D.ref (D.int day)).deref.i)&&
  !((f.acts.map ib).any λa=>decide ((a.c 0).i=7)&&decide ((a.c 4).i=(i:Int))&&decide ((a.c 6).i<=(D.ref (D.int day)).deref.i)))=(List.range f.signs.length).filter λi=>ru f part day i (f.signs.getD i default):=by
  apply ZN;intro i hi;rw[key i (cu.1 hi),List.any_map];rfl
 rw[hf];apply xR;intro i hi;rw[key i (cu.1 (eg.1 hi).1)];rfl
set_option maxRecDepth 10000 in
def ams (f:File)(part day:Int)(h1:f.acts.length<=1000)(h2:f.signs.length<=1000):aq T 73 [.ref (aS f),.ref (.int day),.ref (.int part)] (.list ((gp f part day).map (ox f))):=by
 have wJ:=amu f part day;rw[<-wJ];refine aq.of_it (pc:=(ae ub)) (J:=1000) (k:=2) rfl (λx hx=>?_) (λm hm=>?_)
 .rw[wJ] at hx;obtain⟨i,_,rfl⟩:=fq.1 hx;exact⟨_,rfl,rfl⟩
 .rw[wJ] at hm ⊢;refine Ol ?_;rw[aAQ];simp[YS];refine⟨_,(aiQ f day (by omega)).yld (by decide),?_⟩;refine aN.forLoop (α:=Nat) (λk vr vo=>k<=f.signs.length/\vr=[.int k]/\vo=[.list ((iP f part day k).map (ox f))]/\(iP f part day k).length<=m) (λk=>f.signs.length-k) 0 ?_ ?_
  .simp[amB,iP]
  .rintro k vr vo ⟨hk,rfl,rfl,hc⟩;by_cases ao:k<f.signs.length
   .have dP:i64.wrap ((k:Int)+1)=(k:Int)+1:=bn (by omega);have hg:f.signs.getD k default=f.signs[k]:=by simp[ao]
    have ap3:=aiI k day f.acts;have sO:(((f.signs[k].kind=2/\f.signs[k].part=part)/\f.signs[k].day<=day)/\xx f.acts k day=false)↔ru f part day k (f.signs.getD k default)=true:=by
     rw[hg];simp[ru]
    have dN:=Qs f part day k;obtain⟨r,hr⟩:=amt f part day (k:=k+1) (n:=f.signs.length) ao;rw[aaS] at hr;simp[ahX,ND,ao,dP,ap3];by_cases hi:ru f part day k (f.signs.getD k default)=true
    .have mE:=sO.2 hi;rw[if_pos hi] at dN;have hlen:(iP f part day (k+1)).length=(iP f part day k).length+1:=by rw[dN];simp
     have uM:(iP f part day k).map (ox f)++[D.tup [D.int k,fy f.signs[k]]]=(iP f part day (k+1)).map (ox f):=by
      rw[dN,sr,List.map_singleton];unfold ox;rw[hg]
     have FZ:(iP f part day (k+1)).map (ox f)=((gp f part day).map (ox f)).take ((iP f part day k).length+1):=by
      rw[hr,sr,List.take_append_of_le_length (by simp[hlen]),DZ (by simp[hlen])]
     have bo:(iP f part day k).length<((gp f part day).map (ox f)).length:=by
      rw[hr];simp[hlen];omega
     simp only[mE,uM,and_self,if_true,true_and];refine⟨_,aq.answer FZ bo hc,?_⟩;by_cases pR:(iP f part day k).length<m
     .rw[if_neg (by simp[pR])];exact⟨k+1,by omega,by omega,by simp,rfl,by omega⟩
     .obtain rfl:(iP f part day k).length=m:=by omega
      rw[if_pos (by simp),FZ]
    .have mE:=λh=>hi (sO.1 h);rw[if_neg hi,nm] at dN;rw[if_neg mE,if_neg mE,if_neg (λh=>mE h.1)];exact⟨k+1,by omega,by omega,by simp,by rw[dN],by rw[dN];exact hc⟩
   .obtain rfl:k=f.signs.length:=by omega
    simp[ahX,ND];rw[aaS] at hc ⊢;rw[DZ (by simp;omega)]
set_option maxRecDepth 10000 in
def alz (f:File)(day:Int)(hf:f.acts.length<=1000):aq T 46 [aS f,.int day] (.tup [.int (iN day f.acts).1,.bool (iN day f.acts).2]):=by
 refine zyw 92 aAP ?_;simp[YQ];refine aN.forRounds f.acts.length (λk=>[.int (iN day (f.acts.take k)).1,.bool (iN day (f.acts.take k)).2,.int k]) (λk=>[]) ?_ (λk hk=>?_) ?_
 .simp;exact⟨rfl,rfl⟩
 .have dP:i64.wrap ((k:Int)+1)=(k:Int)+1:=bn (by omega);have hs:iN day (f.acts.take (k+1))=vW day (iN day (f.acts.take k)) f.acts[k]:=by
   unfold iN;rw[lR hk,Iq];rfl
  rw[hs];generalize iN day (f.acts.take k)=x;simp[ahW,NC,hk,dP];generalize f.acts[k]=a;split
  .rename_i h;have hd:pH day a=false:=by
        cases e:pH day a with
        |false=>rfl
        |true=>simp[pH] at e;omega
   simp[vW,hd]
  .rename_i h;have hd:pH day a=true:=by
        simp[pH];omega
   by_cases h2:x.2=false\/a.day<x.1
   .simp[vW,hd,h2]
   .simp[vW,hd,h2];cases e:x.2 with
    |true=>rfl
    |false=>exact absurd (.inl e) h2
 .simp[ahW,NC]
def aw9 (b fl:Int):aq T 48 [.int b,.int fl] (.int (Dv b fl)):=by
 refine zyw 95 aAS ?_;simp[YT,Dv,pM];split
 .rename_i h;by_cases h1:cC .and .i64 fl 2=0
  .simp[h1] at h;simp[h]
  .simp[h1]
 .rename_i h;by_cases h1:cC .and .i64 fl 2=0
  .simp[h1] at h;simp[h1,h]
  .simp[h1] at h
def amw (f:File)(part day:Int):aq T 47 [aS f,.int part,.int day] (.clo 73 [.ref (aS f),.ref (.int day),.ref (.int part)]):=by
 refine zyw 93 aAR ?_;simp[YR]
def amv (f:File)(part day:Int)(k:Nat)(y:D)(h:((gp f part day).map (ox f))[k]?=some y):∃x:Int×Sign,(fT f part day).drop k=x::(fT f part day).drop (k+1)/\y=.tup [.int x.1,fy x.2]:=by
 rw[cM,aD] at h;obtain⟨i,hi,rfl⟩:=h;refine⟨((i:Int),f.signs.getD i default),?_,rfl⟩;have ao:=(fo.1 hi).1;have hl:k<(fT f part day).length:=by unfold fT;rw[fp];exact ao
 rw[Ip hl]
 congr 1
 have e2:(fT f part day)[k]?=some ((i:Int),f.signs.getD i default):=by
  unfold fT;rw[cM,hi];rfl
 rw[bL hl] at e2;exact D1 e2
set_option maxRecDepth 10000 in
def ak2 (O:Env)(f:File)(part day:Int)(p:Int×Bool)(h2:f.signs.length<=1000)(h77:O.r 77=.list ((gp f part day).map (ox f)))(a0 a5:D)(h7:O.o 7=.agg [a0,.int f.bill.payee,.int (-1),.bool (f.bill.payee==-1),.int 0,a5])
 (h41:O.o 4103=.list []) (h24:O.o 24583=.list []) (h8:O.o 8=.agg [.int p.1]) (h9:O.o 9=.agg [.bool p.2]) {Q:Out->Prop}
 (hQ:∀(O':Env) (b0 b5:D),O'.o 4103=ints (j6 p (kF f) (fT f part day)).signs->O'.o 24583=ints (j6 p (kF f) (fT f part day)).late->
   O'.o 7=.agg [b0,.int (j6 p (kF f) (fT f part day)).holder,.int (j6 p (kF f) (fT f part day)).broken,.bool (j6 p (kF f) (fT f part day)).bearer,.int (j6 p (kF f) (fT f part day)).agent,b5]->
   (∀j,j≠11->j≠4103->j≠24583->j≠7->O'.o j=O.o j)->Q (.next O')/\Q (.exit 0 O')):aN T (aaN IA) O Q:=by
 have hlen:=KC f part day
 refine aN.eachR ((gp f part day).map (ox f)) (by simp[h77]) (λk vo=>∃c:Chain,∃Zs b0 b5,c.broken=-1/\j6 p (kF f) (fT f part day)=j6 p c ((fT f part day).drop k)/\c.signs.length<=k/\c.late.length<=k/\
  vo=[Zs,ints c.signs,ints c.late,.agg [b0,.int c.holder,.int c.broken,.bool c.bearer,.int c.agent,b5]]) ?_ ?_ ?_
 .exact⟨kF f,O.o 11,a0,a5,rfl,by simp,bB _,bB _,by simp[h7,h41,h24,kF,ints]⟩
 .rintro k y vo hy ⟨c,Zs,b0,b5,hb,ar,wj,Q4,rfl⟩;have hk:k<f.signs.length:=by
   have:=(fo.1 hy).1;rw[fp] at this;omega
  obtain⟨⟨i,s⟩,hd,rfl⟩:=amv f part day k y hy;rw[hd] at ar;simp only[j6] at ar;simp[awQ,VT,h8,h9];split
  .rename_i uy;have QY:brk c s=true:=by simp[brk,uy.1,uy.2]
   rw[if_pos QY] at ar;rw[ar] at hQ;refine⟨by decide,(hQ _ b0 b5 ?_ ?_ ?_ ?_).2⟩
   .simp
   .simp
   .simp[bH]
   .intro j h1 h2 h3 h4;simp[h1,h2,h3,h4]
  .rename_i uy;have QY:¬brk c s=true:=by simpa [brk] using uy
   rw[if_neg QY] at ar;refine⟨by omega,.int (Dv c.agent s.flags),?_,?_⟩
   .simp[bH,D.cells_none];exact aw9 _ _
   split
   .rename_i uG;refine⟨by omega,dE p c i s,hb,ar,by simp[dE];omega,by simp[dE,uG.1,uG.2];omega,by simp[dE,ints],by simp[dE,ints,uG.1,uG.2],.none,.none,?_⟩;simp[bH,D.cells_none,dE,hb]
   .rename_i uG;have hl:(if p.2&&decide (p.1<s.day) then c.late++[i] else c.late)=c.late:=if_neg (by simpa using uG);refine⟨dE p c i s,hb,ar,by simp[dE];omega,by simp only[dE,hl];omega,by simp[dE,ints],by simp only[dE,hl],.none,b5,?_⟩;simp[bH,D.cells_none,dE,hb]
 .rintro vo ⟨c,Zs,b0,b5,hb,ar,wj,Q4,rfl⟩;have:(fT f part day).drop ((gp f part day).map (ox f)).length=[]:=by
   rw[Ow];unfold fT;simp
  rw[this] at ar;simp only[j6] at ar;rw[ar] at hQ;refine(hQ _ b0 b5 ?_ ?_ ?_ ?_).1
  .simp
  .simp
  .simp
  .intro j h1 h2 h3 h4;simp[h1,h2,h3,h4]
set_option maxRecDepth 10000 in
def ZE (f:File)(part day:Int)(h1:f.acts.length<=1000)(h2:f.signs.length<=1000):aq T 16 [aS f,.int part,.int day] (uf (kG f part day)):=by
 refine zyw 91 aAN ?_;simp[YO];refine⟨_,alz f day h1,_,amw f part day,73,_,rfl,_,ams f part day h1 h2,?_⟩;refine ak2 _ f part day (iN day f.acts) h2 (by simp) (.list []) (.list []) (by simp[bH]) (by simp) (by simp) (by simp[bH]) (by simp[bH]) (λO' b0 b5 g1 g2 g3 _=>?_);simp[g1,g2,g3];constructor<;>rfl
def aww (l:List Int)(n:Int)(hl:l.length<=100000):aq T 23 [ints l,.int n] (.bool (hasB l n)):=by
 refine zyw 178 az1 ?_;simp[X3];refine .scan l.length (λk=>l.getD k 0≠n) (λk=>[.bool false,.int k]) (λ_=>[]) ?_ (λk hk hj ho=>?_) (λk hk hj ho=>?_) (λhj=>?_)
 .simp
 .have hw:=aV hk (by omega);simp[hk] at ho;simp[Vu,Hs,hk,hw,ints,ho]
 .simp[hk] at ho;have:hasB l n=true:=jA.2 ⟨l[k],cG hk,by simp[ho]⟩;simp[Vu,Hs,hk,ints,ho,this]
 .have:hasB l n=false:=by
   rw[DQ];intro h;obtain⟨y,hy,e⟩:=jA.1 h;obtain⟨k,hk,rfl⟩:=jV hy;exact hj k hk (by simpa [hk] using e)
  simp[Vu,Hs,ints,this]
def Cs (day d:Int)(l:List Act):Bool:=l.any λa=>pH day a&&decide (a.day<d)
def arK (day d:Int)(l:List Act):((iN day l).2&&decide ((iN day l).1<d))=Cs day d l:=by
 have key:∀(l:List Act) (s:Int×Bool),((l.foldl (vW day) s).2&&decide ((l.foldl (vW day) s).1<d))=((s.2&&decide (s.1<d))||Cs day d l):=by
  intro l
  induction l with
  |nil=>intro s;exact(se _).symm
  |cons a l ih=>
   intro s;rw[Ak,ih];have h1:Cs day d (a::l)=((pH day a&&decide (a.day<d))||Cs day d l):=rfl;rw[h1,<-Bool.or_assoc]
   congr 1
   unfold vW;cases hd:pH day a
   .simp
   .by_cases h2:s.2=false\/a.day<s.1
    .rw[if_pos rfl,if_pos h2];rcases h2 with h2|h2
     .simp[h2]
     .by_cases h3:s.1<d
      .have:a.day<d:=by omega
       simp[h3,this]
      .simp[h3]
    .rw[if_pos rfl,if_neg h2];simp only[not_or,Bool.not_eq_false] at h2;by_cases h3:s.1<d
     .simp[h3,h2.1]
     .have:¬a.day<d:=by omega
      simp[h3,this]
 have:=key l (0,false);rw[sd,qE] at this;exact this
def av7 (f:File)(at_ day:Int)(hl:f.acts.length<=100000):aq T 53 [aS f,.int at_,.int day] (.bool (Cs day at_ f.acts)):=by
 refine zyw 177 azh ?_;simp[Xv];obtain⟨zzt,hG⟩:∃zzt,zzt=Cs day at_ f.acts:=⟨_,rfl⟩
 rw[<-hG];refine .scan f.acts.length (λk=>(pH day (f.acts.getD k default)&&decide ((f.acts.getD k default).day<at_))=false) (λk=>[.bool false,.int k]) (λ_=>[]) ?_ (λk hk hj ho=>?_) (λk hk hj ho=>?_) (λhj=>?_)
 .simp
 .have hw:=aV hk (by omega);simp[hk,pH] at ho;simp[Vg,Hf,hk,hw];omega
 .have:zzt=true:=by
   rw[hG];exact jA.2 ⟨f.acts[k],cG hk,by simpa [hk] using ho⟩
  simp[hk,pH] at ho;simp[Vg,Hf,hk,this];omega
 .have:zzt=false:=by
   rw[hG,DQ];intro h;obtain⟨y,hy,e⟩:=jA.1 h;obtain⟨k,hk,rfl⟩:=jV hy;have:=hj k hk;simp only[aL,bL hk,jc] at this;rw[this] at e;cases e
  simp[Vg,Hf,this]
def av8 (b fl:Int):aq T 52 [.int b,.int fl] (.int (Dv b fl)):=by
 refine zyw 176 azi ?_;simp[Xw,Dv,pM];by_cases h1:cC .and .i64 fl 2=0<;>by_cases h2:b=0<;>simp[h1,h2]
def av6 (f:File)(sign day:Int)(hl:f.acts.length<=100000):aq T 54 [aS f,.int sign,.int day] (.bool (Aa f sign day)):=by
 refine zyw 175 azg ?_;rw[Wd];by_cases h1:sign<0\/(f.signs.length:Int)<=sign
 .have:aw sign f.signs.length=false:=by simp[aw];omega
  rw[this];simp[Oc,h1]
 have h2:aw sign f.signs.length=true:=by simp[aw];omega
 rw[h2,sf];obtain⟨zzt,hG⟩:∃zzt,zzt=xx f.acts sign day:=⟨_,rfl⟩
 rw[<-hG];simp[Oc,h1];refine .scan f.acts.length (λk=>rX sign day (f.acts.getD k default)=false) (λk=>[.bool false,.int k]) (λ_=>[]) ?_ (λk hk hj ho=>?_) (λk hk hj ho=>?_) (λhj=>?_)
 .simp
 .have hw:=aV hk (by omega);have hn:¬((f.acts[k].kind=7/\f.acts[k].at_=sign)/\f.acts[k].day<=day):=by
   rintro⟨⟨a,b⟩,c⟩;simp[hk,rX,a,b] at ho;omega
  simp[Vf,He,hk,hw,hn]
 .have hn:(f.acts[k].kind=7/\f.acts[k].at_=sign)/\f.acts[k].day<=day:=by
   simp[hk,rX] at ho;omega
  have:zzt=true:=by
   rw[hG];exact jA.2 ⟨f.acts[k],cG hk,by simp[rX,hn]⟩
  simp[Vf,He,hk,hn,this]
 .have:zzt=false:=by
   rw[hG,DQ];intro h;obtain⟨y,hy,e⟩:=jA.1 h;obtain⟨k,hk,rfl⟩:=jV hy;have:=hj k hk;simp only[aL,bL hk,jc] at this;rw[this] at e;cases e
  simp[Vf,He,this]
def uT (l:List Nat):List Int:=l.map λ(i:Nat)=>(i:Int)
def ahh (f:File)(part day:Int)(h1:f.acts.length<=100000)(h2:f.signs.length<=100000):aq T 22 [aS f,.int part,.int day] (ints (uT (gp f part day))):=by
 refine zyw 174 azf ?_;simp[Xu];refine aN.forRounds f.signs.length (λk=>[.none,.int k]) (λk=>[ints (uT (iP f part day k))]) ?_ (λk hk=>?_) ?_
 .simp[iP,uT,ints]
 .have hw:=aV hk (by omega);have hs:=av6 f (k:Int) day h1;have dN:=Qs f part day k;have hg:f.signs.getD k default=f.signs[k]:=by simp[hk]
  have bE:aw (k:Int) f.signs.length=true:=by simp[aw];omega
  rw[Wd,bE,sf] at hs;rw[hg] at dN;have hlen:(iP f part day k).length<=k:=by
   unfold iP;have:=tQ (λi=>ru f part day i (f.signs.getD i default)) (List.range k);rw[DX] at this;exact this
  unfold ru at dN;simp[ahM,Np,hk,hw,bH];by_cases a1:(f.signs[k].kind=2/\f.signs[k].part=part)/\f.signs[k].day<=day
  case neg=>
   have:(decide (f.signs[k].kind=2)&&decide (f.signs[k].part=part)&&decide (f.signs[k].day<=day))=false:=by simpa using a1
   rw[this] at dN;simp at dN;simp[a1,dN]
  simp[a1] at dN ⊢;refine⟨_,hs,?_⟩;cases a3:xx f.acts k day
  case true=>
   simp[a3] at dN ⊢;rw[dN]
  simp[a3] at dN ⊢;rw[dN];exact⟨by simp[uT];omega,by simp[uT,ints]⟩
 .simp[ahM,Np];rfl
@[simp] def aG9:D.none.b=false:=zyz
def eA (n a b:Int):aq T 57 [.int n,.int a,.int b] (.bool (wi n a b)):=by
 refine zyw 28 ayF ?_;simp[WX];by_cases h:a<=n<;>simp[wi,h]
def gj (n m:Int):aq T 75 [.int n,.int m] (.bool (aw n m)):=by
 refine zyw 24 aAU ?_;simp[YV];by_cases h:0<=n<;>simp[aw,h]
def vA (b:Bill):Bool:=
 if b.tenor.kind=0\/b.tenor.kind=4 then decide (b.tenor.n=0)&&decide (b.tenor.unit=0)
 else if b.tenor.kind=1\/b.tenor.kind=2 then(decide (1<=b.tenor.n)&&decide (b.tenor.n<=400))&&(decide (b.tenor.unit=0)||decide (b.tenor.unit=1))
 else if b.tenor.kind=3 then(decide (b.day<=b.tenor.n)&&decide (b.tenor.n<=100000))&&decide (b.tenor.unit=0)
 else false
def ajD (b:Bill):aq T 76 [fK b] (.bool (vA b)):=by
 refine zyw 25 aAV ?_;unfold vA;simp[YW];by_cases h0:b.tenor.kind=0
 .by_cases h1:b.tenor.n=0<;>simp[h0,h1]
 by_cases h4:b.tenor.kind=4
 .by_cases h1:b.tenor.n=0<;>simp[h4,h1]
 simp[h0,h4];by_cases k1:b.tenor.kind=1
 .by_cases h1:1<=b.tenor.n<;>by_cases h2:b.tenor.n<=400<;>by_cases h3:b.tenor.unit=0<;>simp[k1,h1,h2,h3]
 by_cases k2:b.tenor.kind=2
 .by_cases h1:1<=b.tenor.n<;>by_cases h2:b.tenor.n<=400<;>by_cases h3:b.tenor.unit=0<;>simp[k2,h1,h2,h3]
 simp[k1,k2];by_cases k3:b.tenor.kind=3
 .by_cases h1:b.day<=b.tenor.n<;>by_cases h2:b.tenor.n<=100000<;>simp[k3,h1,h2]
 simp[k3]
def jQ (n m:Int):Bool:=decide (n=-1)||aw n m
def nk (r:Realm)(b:Bill):Bool:=((aw b.drawer r.firms.length&&aw b.drawee r.firms.length)&&jQ b.payee r.firms.length)&&jQ b.need r.firms.length
def mq (r:Realm)(b:Bill):Bool:=(aw b.currency r.currencies.length&&aw b.city r.cities.length)&&aw b.pay r.cities.length
def m7 (b:Bill):Prop:=((((1<=b.sum/\b.sum<=1099511627776)/\0<=b.day)/\b.day<=100000)/\0<=b.rate)/\b.rate<=1000
def ur (b:Bill):Prop:=((0<=b.flags/\b.flags<=7)/\(cC .and .i64 b.flags 4=0\/¬b.payee=-1))/\vA b=true
structure BillOK (r:Realm) (b:Bill):Prop where
 realm:eO r=0
 who:nk r b=true
 where_:mq r b=true
 range:m7 b
 parts:1<=b.parts/\b.parts<=4
 form:ur b
 usance:b.tenor.kind=4->∃u,u∈r.usances/\u.fr=b.city/\u.to=b.pay
def qF (P:Prop)(d:D):Prop:=∃e:Int,d=.int e/\(e=0↔P)
def qF.no {P:Prop}{e:Int}(h:¬P)(he:e≠0):qF P (.int e):=⟨e,rfl,λx=>absurd x he,λx=>absurd x h⟩
def qF.ok {P:Prop}(h:P):qF P (.int 0):=⟨0,rfl,λ_=>h,λ_=>rfl⟩
def aBl (r:Realm)(hs:Small r)(b:Bill):∃d,aq T 55 [aX r,fK b] d/\qF (BillOK r b) d:=by
 refine aq.ex_of_tree rfl aad aiX ?_;simp[Ok];refine⟨_,ah2 r hs,?_⟩;by_cases h0:eO r=0
 case neg=>
  simp[h0];exact .no (λh=>h0 h.realm) h0
 simp[h0];refine⟨_,gj _ _,?_⟩;cases h1:aw b.drawer r.firms.length
 .simp;exact .no (λh=>by simpa [nk,h1] using h.who) (by decide)
 simp;refine⟨_,gj _ _,?_⟩;cases h2:aw b.drawee r.firms.length
 .simp;exact .no (λh=>by simpa [nk,h2] using h.who) (by decide)
 by_cases h3:jQ b.payee r.firms.length=true
 case neg=>
  have eI:¬b.payee=-1/\aw b.payee r.firms.length=false:=by simpa [jQ] using h3
  simp[eI.1];refine⟨_,gj _ _,?_⟩;simp[eI.2];exact .no (λh=>h3 (by have:=h.who;simp[nk] at this;exact this.1.2)) (by decide)
 by_cases h4:jQ b.need r.firms.length=true
 case neg=>
  have nD:¬b.need=-1/\aw b.need r.firms.length=false:=by simpa [jQ] using h4
  have eK:qF (BillOK r b) (.int 1):=.no (λh=>h4 (by have:=h.who;simp[nk] at this;exact this.2)) (by decide);by_cases hp:b.payee=-1
  .simp[hp,nD.1];refine⟨_,gj _ _,?_⟩;simp[nD.2];exact eK
  .have eI:aw b.payee r.firms.length=true:=by simpa [jQ,hp] using h3
   simp[hp];refine⟨_,gj _ _,?_⟩;simp[eI,nD.1];refine⟨_,gj _ _,?_⟩;simp[nD.2];exact eK
 have uO:nk r b=true:=by simp[nk,h1,h2,h3,h4]
 have hp:b.payee=-1\/(¬b.payee=-1/\aw b.payee r.firms.length=true):=by
  by_cases e:b.payee=-1
  .exact .inl e
  .exact .inr ⟨e,by simpa [jQ,e] using h3⟩
 have hn:b.need=-1\/(¬b.need=-1/\aw b.need r.firms.length=true):=by
  by_cases e:b.need=-1
  .exact .inl e
  .exact .inr ⟨e,by simpa [jQ,e] using h4⟩
 have bad:¬mq r b=true->qF (BillOK r b) (.int 1):=λh=>.no (λk=>h k.where_) (by decide);have fin:∀u:Int,(u=0↔∃u,u∈r.usances/\u.fr=b.city/\u.to=b.pay)->m7 b->(1<=b.parts/\b.parts<=4)->ur b->mq r b=true->qF (BillOK r b) (if b.tenor.kind=4 then .int u else .int 0):=by
  intro u hu h6 h7 h8 h9;by_cases e:b.tenor.kind=4
  .rw[if_pos e];exact⟨u,rfl,λh=>⟨h0,uO,h9,h6,h7,h8,λ_=>hu.1 h⟩,λh=>hu.2 (h.usance e)⟩
  .rw[if_neg e];exact .ok ⟨h0,uO,h9,h6,h7,h8,λh=>absurd h e⟩
 obtain⟨un,ue,R6,_,hu2⟩:=aj3 r b.city b.pay (by have:=hs.us;omega);rcases hp with hp|⟨hp,fb⟩<;>rcases hn with hn|⟨hn,nF⟩
 case' inl.inl=>simp[hp,hn]
 case' inl.inr=>simp[hp,hn];refine⟨_,gj _ _,?_⟩;simp[nF]
 case' inr.inl=>simp[hp,hn];refine⟨_,gj _ _,?_⟩;simp[fb]
 case' inr.inr=>simp[hp,hn];refine⟨_,gj _ _,?_⟩;simp[fb];refine⟨_,gj _ _,?_⟩;simp[nF]
 all_goals
  refine⟨_,gj _ _,?_⟩;cases h5:aw b.currency r.currencies.length
  .simp;exact bad (by simp[mq,h5])
  simp;refine⟨_,gj _ _,?_⟩;cases h6:aw b.city r.cities.length
  .simp;exact bad (by simp[mq,h6])
  simp;refine⟨_,gj _ _,?_⟩;cases h7:aw b.pay r.cities.length
  .simp;exact bad (by simp[mq,h7])
  have za:mq r b=true:=by simp[mq,h5,h6,h7]
  simp;by_cases h8:m7 b
  case neg=>
   have uw:((((b.sum<1\/1099511627776<b.sum)\/b.day<0)\/100000<b.day)\/b.rate<0)\/1000<b.rate:=by unfold m7 at h8;omega
   rw[if_pos uw];exact .no (λk=>h8 k.range) (by decide)
  have uw:¬(((((b.sum<1\/1099511627776<b.sum)\/b.day<0)\/100000<b.day)\/b.rate<0)\/1000<b.rate):=by unfold m7 at h8;omega
  rw[if_neg uw];by_cases h9:1<=b.parts/\b.parts<=4
  case neg=>
   rw[if_pos (by omega)];exact .no (λk=>h9 k.parts) (by decide)
  rw[if_neg (by omega)];have ya:¬ur b->qF (BillOK r b) (.int 2):=λh=>.no (λk=>h k.form) (by decide);by_cases g1:0<=b.flags/\b.flags<=7
  case neg=>
   have dp:b.flags<0\/7<b.flags:=by omega
   simp[g1,dp];exact ya (λh=>g1 h.1.1)
  have dp:¬(b.flags<0\/7<b.flags):=by omega
  by_cases g2:cC .and .i64 b.flags 4=0\/¬b.payee=-1
  case neg=>
   have kc:¬cC .and .i64 b.flags 4=0/\b.payee=-1:=by simpa using g2
   first
        |exact absurd kc.2 hp
        |(simp[g1,dp,kc]
          exact ya (λh=>g2 h.1.2))
  have g3:(b.payee=-1->cC .and .i64 b.flags 4=0):=λe=>g2.resolve_right (λh=>h e);simp[g1,dp,hp,g3];refine⟨_,ajD b,?_⟩;cases gL:vA b
  .simp;exact ya (λh=>by have:=h.2;rw[gL] at this;cases this)
  have hf:=fin ue hu2 h8 h9 ⟨⟨g1,g2⟩,gL⟩ za;simp;by_cases e:b.tenor.kind=4
  .simp[e] at hf ⊢;exact⟨_,R6,hf⟩
  .simp[e] at hf ⊢;exact hf
def qw (f:File)(i part:Int):Bool:=decide (i=0)||decide ((cl f i).part=part)
def agr (f:File)(i part:Int)(h:i=0\/(0<=i/\i<f.signs.length)):aq T 108 [aS f,.int i,.int part] (.bool (qw f i part)):=by
 refine zyw 31 ayH ?_;unfold qw;by_cases h0:i=0
 .simp[N7,h0]
 .obtain⟨h1,h2⟩:=h.resolve_left h0;have h3:i.toNat<f.signs.length:=by omega
  simp[N7,h0,h1,h2,h3,cl]
def Ar (f:File)(i:Int)(kinds:List Int):Bool:=wi (cl f i).for_ 0 (i-1)&&(qw f (cl f i).for_ (cl f i).part&&hasB kinds (cl f (cl f i).for_).kind)
def avm (f:File)(i:Int)(kinds:List Int)(h:0<=i/\i<f.signs.length)(hl:f.signs.length<=100000)(hk:kinds.length<=100):aq T 107 [aS f,.int i,ints kinds] (.bool (Ar f i kinds)):=by
 refine zyw 30 ayC ?_;have h1:i.toNat<f.signs.length:=by omega
 have hw:i64.wrap (i-1)=i-1:=bn (by omega);have hs:cl f i=f.signs[i.toNat]:=by simp[cl,h1]
 unfold Ar;rw[hs];simp[WU,h,h1,hw];refine⟨_,eA _ _ _,?_⟩;cases hb:wi f.signs[i.toNat].for_ 0 (i-1)
 .simp
 .have bE:0<=f.signs[i.toNat].for_/\f.signs[i.toNat].for_<f.signs.length:=by
   simp[wi] at hb;omega
  have h2:f.signs[i.toNat].for_.toNat<f.signs.length:=by omega
  have fW:cl f f.signs[i.toNat].for_=f.signs[f.signs[i.toNat].for_.toNat]:=by simp[cl,h2]
  rw[fW];simp;refine⟨_,agr f _ _ (.inr bE),?_⟩;cases cA:qw f f.signs[i.toNat].for_ f.signs[i.toNat].part
  .simp
  simp[bE,h2];exact DR kinds _ (by omega)
def KG (r:Realm)(b:Bill)(s:Sign)(B:List Int->Bool):Bool:=
 if s.kind=0 then((((decide (s.who=b.drawer)&&decide (s.sum=0))&&decide (cC .or .i64 s.flags 1=1))&&decide (s.part=0))&&decide (s.day=b.day))&&decide (s.city=b.city)
 else if s.kind=1 then decide (s.who=b.drawee)&&(wi s.sum 1 1099511627776&&decide (s.flags=0))
 else if s.kind=2 then((wi s.to (-1) ((r.firms.length:Int)-1)&&decide (s.sum=0))&&wi s.flags 0 7)&&decide (cC .and .i64 s.flags 6≠6)
 else if s.kind=3 then(decide (s.sum=0)&&decide (s.flags=0))&&B [0,1,2,4]
 else if s.kind=4 then((wi s.sum 1 1099511627776&&decide (s.flags=0))&&decide (s.who≠b.drawee))&&B [0,2]
 else false
def EY (r:Realm)(b:Bill)(i:Nat)(s:Sign)(B:List Int->Bool):Bool:=
 if ¬(i=0↔s.kind=0)\/(¬s.kind=2/\¬s.to=-1) then false
 else if(¬s.kind=3/\¬s.kind=4)/\¬s.for_=-1 then false
 else KG r b s B
def qZ (r:Realm)(f:File)(i:Nat):Bool:=EY r f.bill i (f.signs.getD i default) (Ar f i)
def avn (r:Realm)(hr:Small r)(f:File)(i:Nat)(h:i<f.signs.length)(hl:f.signs.length<=100000):aq T 78 [aX r,aS f,.int i] (.bool (qZ r f i)):=by
 refine zyw 29 ayE ?_;have eJ:=hr.firms;have hw:i64.wrap ((r.firms.length:Int)-1)=(r.firms.length:Int)-1:=bn (by omega);have hs:f.signs.getD i default=f.signs[i]:=by simp[h]
 have wh:=λks hk=>avm f i ks ⟨by omega,by omega⟩ hl hk;unfold qZ;rw[hs];generalize hB:Ar f i=B at wh ⊢;generalize hX:EY r f.bill i f.signs[i] B=X;simp[WW,h];generalize f.signs[i]=s at*;unfold EY at hX;by_cases h1:¬(i=0↔s.kind=0)\/(¬s.kind=2/\¬s.to=-1)
 .rw[if_pos h1] at hX ⊢;exact hX.symm
 rw[if_neg h1] at hX ⊢;by_cases h2:(¬s.kind=3/\¬s.kind=4)/\¬s.for_=-1
 .rw[if_pos h2] at hX ⊢;exact hX.symm
 rw[if_neg h2] at hX ⊢;refine⟨_,eA _ _ _,?_⟩;unfold KG at hX;by_cases k0:s.kind=0
 .rw[if_pos k0] at hX ⊢;rw[<-hX];by_cases a:(((s.who=f.bill.drawer/\s.sum=0)/\cC BinOp.or IntKind.i64 s.flags 1=1)/\s.part=0)/\s.day=f.bill.day
  .simp[a]
  .rw[if_neg a]
   congr 1
   rw[eq_comm,DQ];intro e;simp at e;exact a e.1
 rw[if_neg k0] at hX ⊢;by_cases k1:s.kind=1
 .rw[if_pos k1] at hX ⊢;rw[<-hX];by_cases a:s.who=f.bill.drawee<;>cases wi s.sum 1 1099511627776<;>simp[a]
 rw[if_neg k1] at hX ⊢;by_cases k2:s.kind=2
 .rw[if_pos k2] at hX ⊢;rw[<-hX,hw];refine⟨_,eA _ _ _,?_⟩;cases wi s.to (-1) ((r.firms.length:Int)-1)
  .simp
  by_cases a:s.sum=0
  case neg=>simp[a]
  simp[a];refine⟨_,eA _ _ _,?_⟩;cases wi s.flags 0 7<;>simp
 rw[if_neg k2] at hX ⊢;by_cases k3:s.kind=3
 .rw[if_pos k3] at hX ⊢;rw[<-hX];by_cases a:s.sum=0/\s.flags=0
  case neg=>
   rw[if_neg a,if_neg a]
   congr 1
   rw[eq_comm,DQ];intro e;simp at e;exact a e.1
  rw[if_pos a];refine⟨_,wh [0,1,2,4] (by decide),?_⟩;simp[a]
 rw[if_neg k3] at hX ⊢;by_cases k4:s.kind=4
 .rw[if_pos k4] at hX ⊢;rw[<-hX];cases wi s.sum 1 1099511627776
  .simp
  by_cases a:s.flags=0/\¬s.who=f.bill.drawee
  case neg=>
   simp[a]
  simp[a];exact wh [0,2] (by decide)
 rw[if_neg k4] at hX ⊢;exact hX.symm
def pK (f:File)(i:Nat):Int:=if i=0 then f.bill.day else(f.signs.getD (i-1) default).day
def tJ (f:File)(i:Nat)(s:Sign):Bool:=(f.signs.take i).any λx=>(decide (s.kind=1)&&decide (x.kind=1))&&decide (x.part=s.part)
def kr (r:Realm)(f:File)(i:Nat):Int:=
 let s:=f.signs.getD i default
 if wi s.part 0 (f.bill.parts-1)=false then 15
 else if aw s.who r.firms.length=false\/aw s.city r.cities.length=false then 1
 else if wi s.day (pK f i) 100000=false\/(i=0/\¬s.day=pK f i) then 13
 else if qZ r f i=false then 14
 else if tJ f i s=true then 5 else 0
def Mx (r:Realm)(hr:Small r)(f:File)(hp:1<=f.bill.parts/\f.bill.parts<=4)(i:Nat)(h:i<f.signs.length)(hl:f.signs.length<=100000):aq T 56 [aX r,aS f,.int i] (.int (kr r f i)):=by
 refine zyw 27 ayG ?_;have eJ:=hr.firms;have Q5:=hr.cities;have dP:i64.wrap ((r.firms.length:Int)-1)=(r.firms.length:Int)-1:=bn (by omega);have di:i64.wrap ((r.cities.length:Int)-1)=(r.cities.length:Int)-1:=bn (by omega);have y9:i64.wrap (f.bill.parts-1)=f.bill.parts-1:=bn (by omega);have hs:f.signs.getD i default=f.signs[i]:=by simp[h]
 generalize hX:kr r f i=X;unfold kr at hX;simp only[hs] at hX;simp[WY,h,dP,di,y9];refine⟨_,eA _ _ _,?_⟩;cases a1:wi f.signs[i].part 0 (f.bill.parts-1)
 .simpa [a1] using hX
 simp[a1] at hX ⊢;refine⟨_,eA _ _ _,?_⟩;rw[jO] at hX;cases a2:wi f.signs[i].who 0 ((r.firms.length:Int)-1)
 .simpa [a2] using hX
 simp[a2] at hX ⊢;refine⟨_,eA _ _ _,?_⟩;rw[jO] at hX;cases a3:wi f.signs[i].city 0 ((r.cities.length:Int)-1)
 .simpa [a3] using hX
 simp[a3] at hX ⊢;refine⟨by omega,?_⟩;have Ly:min i f.signs.length=i:=by omega
 refine aN.forRounds i (λk=>[.int (pK f k),.bool ((f.signs.take k).any λx=>(decide (f.signs[i].kind=1)&&decide (x.kind=1))&&decide (x.part=f.signs[i].part)),.int k]) (λ_=>[]) ?_ (λk hk=>?_) ?_
 .simp[pK]
 .have hw:=aV hk (by omega);have bh:k<f.signs.length:=by omega
  have hf:pK f (k+1)=f.signs[k].day:=by simp[pK,bh]
  rw[lR bh,List.any_append];generalize ((f.signs.take k).any λx=>(decide (f.signs[i].kind=1)&&decide (x.kind=1))&&decide (x.part=f.signs[i].part))=A;simp[ahD,Nc,hk,bh,h,hw,hf,Ly];cases A
  .by_cases e1:f.signs[i].kind=1<;>by_cases e2:f.signs[k].kind=1<;>simp[e1,e2]
  .simp
 .have ht:tJ f i f.signs[i]=true↔∃x,x∈List.take i f.signs/\(f.signs[i].kind=1/\x.kind=1)/\x.part=f.signs[i].part:=by simp[tJ]
  simp[ahD,Nc,Ly,h];refine⟨_,eA _ _ _,?_⟩;by_cases a4:wi f.signs[i].day (pK f i) 100000=false\/(i=0/\¬f.signs[i].day=pK f i)
  .rw[if_pos a4] at hX;rw[if_pos (by simpa using a4)];exact hX
  rw[if_neg a4] at hX;rw[if_neg (by simpa using a4)];refine⟨_,avn r hr f i h hl,?_⟩;cases a5:qZ r f i
  .simpa [a5] using hX
  simp[a5] at hX;simp only[Qh,if_true];rw[<-hX];by_cases a6:tJ f i f.signs[i]=true
  .rw[if_pos a6,if_pos (ht.1 a6)]
  .rw[if_neg a6,if_neg (λx=>a6 (ht.2 x))]
def D3 (a:Act)(to at_ own:Bool):Bool:=
 if a.kind=0\/a.kind=1\/a.kind=2 then(to&&decide (a.at_=-1))&&decide (a.sum=0)
 else if a.kind=3\/a.kind=4\/a.kind=5 then((to&&decide (a.at_=-1))&&wi a.sum 0 1099511627776)&&wi a.form 0 1
 else if a.kind=6 then(to&&own)&&wi a.sum 1 1099511627776
 else if a.kind=9 then(decide (a.to=-1)&&own)&&decide (a.sum=0)
 else(decide (a.to=-1)&&at_)&&decide (a.sum=0)
def x9 (f:File)(a:Act):Bool:=aw a.at_ f.signs.length&&qw f a.at_ a.part
def Gy (f:File)(a:Act):Bool:=x9 f a&&decide ((cl f a.at_).who=a.who)
def pD (r:Realm)(f:File)(a:Act):Bool:=
 if aw a.who r.firms.length=false\/(¬a.kind=4/\¬a.form=0) then false else D3 a (aw a.to r.firms.length) (x9 f a) (Gy f a)
def avl (r:Realm)(hr:Small r)(f:File)(a:Act)(hl:f.signs.length<=100000):aq T 79 [aX r,aS f,ib a] (.bool (pD r f a)):=by
 refine zyw 35 ayA ?_;have eJ:=hr.firms;have dP:i64.wrap ((r.firms.length:Int)-1)=(r.firms.length:Int)-1:=bn (by omega);have di:i64.wrap ((f.signs.length:Int)-1)=(f.signs.length:Int)-1:=bn (by omega);generalize hX:pD r f a=X;unfold pD Gy x9 at hX;simp[WS,dP,di];refine⟨_,eA _ _ _,?_⟩;rw[<-jO];have rp:=eA a.to 0 ((r.firms.length:Int)-1);have za:=eA a.who 0 ((r.firms.length:Int)-1);rw[<-jO] at rp za;generalize aw a.to r.firms.length=tt at*;generalize aw a.who r.firms.length=ww at*;have fin:∀at_ own:Bool,(if ww=false\/(¬a.kind=4/\¬a.form=0) then false else D3 a tt at_ own)=X->
  if ww=false\/(¬a.kind=4/\¬a.form=0) then X=false
  else if a.kind=0\/a.kind=1\/a.kind=2 then(if tt=true/\a.at_=-1 then D.bool (decide (a.sum=0)) else D.bool false)=D.bool X
  else if a.kind=3\/a.kind=5\/a.kind=4 then
        if tt=true/\a.at_=-1 then
         ∃d,aq (eH tab ext) 57 [D.int a.sum,D.int 0,D.int 1099511627776] d/\
          if(tt=true/\a.at_=-1)/\d.b=true then
             ∃Ey,aq (eH tab ext) 57 [D.int a.form,D.int 0,D.int 1] Ey/\(if(tt=true/\a.at_=-1)/\d.b=true then Ey else D.bool false)=D.bool X
          else(if(tt=true/\a.at_=-1)/\d.b=true then D.none else D.bool false)=D.bool X
        else D.bool false=D.bool X
  else if a.kind=6 then
        if tt=true/\own=true then ∃Ey,aq (eH tab ext) 57 [D.int a.sum,D.int 1,D.int 1099511627776] Ey/\(if tt=true/\own=true then Ey else D.bool false)=D.bool X
        else(if tt=true/\own=true then D.none else D.bool false)=D.bool X
  else if a.kind=9 then(if a.to=-1/\own=true then D.bool (decide (a.sum=0)) else D.bool false)=D.bool X
  else(if a.to=-1/\at_=true then D.bool (decide (a.sum=0)) else D.bool false)=D.bool X:=by
  intro at_ own hX;by_cases p:ww=false\/(¬a.kind=4/\¬a.form=0)
  .rw[if_pos p] at hX ⊢;exact hX.symm
  rw[if_neg p] at hX ⊢;unfold D3 at hX;by_cases k0:a.kind=0\/a.kind=1\/a.kind=2
  .rw[if_pos k0] at hX ⊢;rw[<-hX];by_cases e:tt=true/\a.at_=-1
   .simp[e]
   .rw[if_neg e];cases tt<;>simp at e ⊢;simp[e]
  rw[if_neg k0] at hX ⊢;by_cases k3:a.kind=3\/a.kind=4\/a.kind=5
  .rw[if_pos k3] at hX;rw[if_pos (by omega),<-hX];by_cases e:tt=true/\a.at_=-1
   .rw[if_pos e];refine⟨_,eA _ _ _,?_⟩;cases wi a.sum 0 1099511627776
    .simp
    .simp[e];exact eA _ _ _
   .rw[if_neg e];cases tt<;>simp at e ⊢;simp[e]
  rw[if_neg k3] at hX;rw[if_neg (by omega)];by_cases k6:a.kind=6
  .rw[if_pos k6] at hX ⊢;rw[<-hX];by_cases e:tt=true/\own=true
   .rw[if_pos e];refine⟨_,eA _ _ _,?_⟩;simp[e]
   .rw[if_neg e,if_neg e];cases tt<;>cases own<;>simp at e ⊢
  rw[if_neg k6] at hX ⊢;by_cases k9:a.kind=9
  .rw[if_pos k9] at hX ⊢;rw[<-hX];cases own<;>by_cases e:a.to=-1<;>simp[e]
  rw[if_neg k9] at hX ⊢;rw[<-hX];cases at_<;>by_cases e:a.to=-1<;>simp[e]
 cases h1:aw a.at_ f.signs.length
 .have hf:=fin false false (by simpa [h1] using hX);simp at hf ⊢;refine⟨_,rp,_,za,?_⟩;simpa using hf
 have cD:0<=a.at_/\a.at_<f.signs.length:=by simpa [aw] using h1
 have h2:a.at_.toNat<f.signs.length:=by omega
 have hs:cl f a.at_=f.signs[a.at_.toNat]:=by simp[cl,h2]
 simp[cD];refine⟨_,agr f _ _ (.inr cD),_,rp,_,za,?_⟩;rw[h1,hs] at hX;have hf:=fin _ _ hX;cases h3:qw f a.at_ a.part
 .rw[h3] at hf;simpa using hf
 .rw[h3] at hf;simpa [h2] using hf
def Mg (a b:Int):(if a<b then b else a)=max a b:=by split<;>omega
def Mf (a b:Int):(if a<b then D.int b else D.int a)=D.int (max a b):=by
 rw[<-Mg];split<;>rfl
def LZ (f:File)(i:Nat)(a:Act):Int:=
 let x:=if a.at_=-1 then f.bill.day else max f.bill.day (cl f a.at_).day
 if i=0 then x else max x (f.acts.getD (i-1) default).day
def jZ (r:Realm)(f:File)(i:Nat):Int:=
 let a:=f.acts.getD i default
 if wi a.part 0 (f.bill.parts-1)=false then 15
 else if aw a.city r.cities.length=false\/wi a.kind 0 9=false then 1
 else if pD r f a=false then 14
 else if wi a.day (LZ f i a) 100000=false then 13 else 0
def OS {r:Realm}{f:File}{a:Act}(h:pD r f a=true)(hn:¬a.at_=-1):0<=a.at_/\a.at_<f.signs.length:=by
 unfold pD at h;split at h
 .cases h
 have key:x9 f a=true->0<=a.at_/\a.at_<f.signs.length:=λe=>by
  unfold x9 at e;simp only[av] at e;simpa [aw] using e.1
 unfold D3 Gy at h
 repeat' split at h
 all_goals simp only[av,decide_eq_true_eq] at h
 .exact absurd h.1.2 hn
 .exact absurd h.1.1.2 hn
 .exact key h.1.2.1
 .exact key h.1.2.1
 .exact key h.1.2
def agp (r:Realm)(hr:Small r)(f:File)(hp:1<=f.bill.parts/\f.bill.parts<=4)(hl:f.signs.length<=100000)(uF:f.acts.length<=100000):aq T 58 [aX r,aS f] (.int (da f.acts.length (jZ r f))):=by
 refine zyw 34 ayB ?_;have Q5:=hr.cities;have di:i64.wrap ((r.cities.length:Int)-1)=(r.cities.length:Int)-1:=bn (by omega);have y9:i64.wrap (f.bill.parts-1)=f.bill.parts-1:=bn (by omega);simp[WT];refine nT f.acts.length (jZ r f) (λk=>[.int 0,.int k]) (λ_=>[]) ?_ (λk hk ho=>?_) (λk hk ho hb=>?_) (λhj=>?_)
 .simp
 case' refine_2=>have hb:jZ r f k=jZ r f k:=rfl
 case' refine_3=>rw[hb]
 case refine_4=>simp[ahB,Na,hj]
 all_goals
  have hw:=aV hk (by omega);have hs:f.acts.getD k default=f.acts[k]:=by simp[hk]
  clear hb;generalize hX:jZ r f k=X at*;unfold jZ at hX;simp only[hs] at hX;simp[ahB,Na,hk,di,y9,hw];refine⟨_,eA _ _ _,?_⟩;cases a1:wi f.acts[k].part 0 (f.bill.parts-1)
  .simp[a1] at hX ⊢
   first|exact hX|(exfalso;omega)
  simp[a1] at hX ⊢;refine⟨_,eA _ _ _,?_⟩;rw[jO] at hX;cases a2:wi f.acts[k].city 0 ((r.cities.length:Int)-1)
  .simp[a2] at hX ⊢
   first|exact hX|(exfalso;omega)
  simp[a2] at hX ⊢;refine⟨_,eA _ _ _,?_⟩;cases a3:wi f.acts[k].kind 0 9
  .simp[a3] at hX ⊢
   first|exact hX|(exfalso;omega)
  simp[a3] at hX ⊢;refine⟨_,avl r hr f f.acts[k] hl,?_⟩;cases a4:pD r f f.acts[k]
  .simp[a4] at hX ⊢
   first|exact hX|(exfalso;omega)
  simp[a4] at hX ⊢;unfold LZ at hX;by_cases k0:k=0
  .subst k0;by_cases e1:f.acts[0].at_=-1
   .simp[e1] at hX;simp[e1];refine⟨_,eA _ _ _,?_⟩;split at hX
    .rename_i e;simp[e]
     first|exact hX|(exfalso;omega)
    .rename_i e
     first|(exfalso;omega)|simp[e]
   .obtain⟨h5,h6⟩:=OS a4 e1;have h7:f.acts[0].at_.toNat<f.signs.length:=by omega
    have h8:cl f f.acts[0].at_=f.signs[f.acts[0].at_.toNat]:=by simp[cl,h7]
    simp[e1,h8] at hX;simp[e1,h5,h6,h7,Mf,Mg];refine⟨_,eA _ _ _,?_⟩;split at hX
    .rename_i e;simp[e]
     first|exact hX|(exfalso;omega)
    .rename_i e
     first|(exfalso;omega)|simp[e]
  .have bq:i64.wrap ((k:Int)-1)=(k:Int)-1:=bn (by omega);have cn:((k:Int)-1).toNat=k-1:=by omega
   have fB:k-1<f.acts.length:=by omega
   have oC:0<k:=by omega
   by_cases e1:f.acts[k].at_=-1
   .simp[k0,e1,fB] at hX;simp[e1,oC,bq,cn,fB,Mf,Mg];refine⟨by omega,_,eA _ _ _,?_⟩;split at hX
    .rename_i e;simp[e]
     first|exact hX|(exfalso;omega)
    .rename_i e
     first|(exfalso;omega)|simp[e]
   .obtain⟨h5,h6⟩:=OS a4 e1;have h7:f.acts[k].at_.toNat<f.signs.length:=by omega
    have h8:cl f f.acts[k].at_=f.signs[f.acts[k].at_.toNat]:=by simp[cl,h7]
    simp[k0,e1,fB,h8] at hX;simp[e1,oC,bq,cn,fB,h5,h6,h7,Mf,Mg];refine⟨by omega,_,eA _ _ _,?_⟩;split at hX
    .rename_i e;simp[e]
     first|exact hX|(exfalso;omega)
    .rename_i e
     first|(exfalso;omega)|simp[e]
def qO (a b:Int):Int:=if a<b then-1 else if b<a then 1 else 0
def ac9 (a:Int):aq T 109 [.int a] (.bool false):=by
 refine zyw 38 ayc ?_;simp[Wu]
def ZG (a b:Int):aq T 81 [.int a,.int b] (.int (qO a b)):=by
 refine zyw 37 aya ?_;simp[Ws];refine⟨_,ac9 a,_,ac9 b,?_⟩;unfold qO;by_cases h1:a<b
 .simp[h1]
 by_cases h2:b<a<;>simp[h1,h2]
def aj0 (l:List Int)(hl:l.length<=100000):aq T 80 [ints l] (.int (da l.length λk=>l.getD k 0)):=by
 refine zyw 39 ayb ?_;simp[Wt];refine nT l.length (λk=>l.getD k 0) (λk=>[.int 0,.int k]) (λ_=>[]) ?_ (λk hk ho=>?_) (λk hk ho hb=>?_) (λhj=>?_)
 .simp
 .have hw:=aV hk (by omega);have hx:l[k]=0:=by simpa [hk] using ho
  simp[UT,GS,hk,hx,hw]
 .have hx:¬l[k]=0:=by simpa [hk] using ho
  simp only[aL] at hb ⊢;rw[hb];simp[UT,GS,hk,hx]
 .simp only[aL] at hj ⊢;rw[hj];simp[UT,GS]
def or2 (a b:Int):(da 2 λk=>[a,b].getD k 0)=if a=0 then b else a:=by
 have e:List.range 2=[0,1]:=rfl;unfold da;rw[e];by_cases ha:a=0<;>by_cases hb:b=0<;>simp[ha,hb]
def tT (x y:Fact):Prop:=x.at_<y.at_\/(x.at_=y.at_/\x.kind<y.kind)
instance (x y:Fact):Decidable (tT x y):=by unfold tT;infer_instance
def akf (x y:Fact):0<=(if qO x.at_ y.at_=0 then qO x.kind y.kind else qO x.at_ y.at_)↔¬tT x y:=by
 unfold qO tT
 repeat' split
 all_goals omega
def mC (f:File)(i:Nat):Int:=
 let x:=f.facts.getD i default
 if wi x.kind 0 4=false then 1 else if aw x.at_ f.signs.length=false then 1 else if wi x.n 0 1=false then 1
 else if i=0 then 0 else if tT (f.facts.getD (i-1) default) x then 0 else 5
def agq (f:File)(hl:f.signs.length<=100000)(hlf:f.facts.length<=100000):aq T 59 [aS f] (.int (da f.facts.length (mC f))):=by
 refine zyw 36 ayD ?_;have di:i64.wrap ((f.signs.length:Int)-1)=(f.signs.length:Int)-1:=bn (by omega);simp[WV];refine nT f.facts.length (mC f) (λk=>[.int 0,.int k]) (λ_=>[]) ?_ (λk hk ho=>?_) (λk hk ho hb=>?_) (λhj=>?_)
 .simp
 case' refine_2=>have hb:mC f k=mC f k:=rfl
 case' refine_3=>rw[hb]
 case refine_4=>simp[ahC,Nb,hj]
 all_goals
  have hw:=aV hk (by omega);have hs:f.facts.getD k default=f.facts[k]:=by simp[hk]
  clear hb;generalize hX:mC f k=X at*;unfold mC at hX;simp only[hs] at hX;simp[ahC,Nb,hk,di,hw];refine⟨_,eA _ _ _,?_⟩;cases a1:wi f.facts[k].kind 0 4
  .simp[a1] at hX ⊢
   first|exact hX|(exfalso;omega)
  simp[a1] at hX ⊢;refine⟨_,eA _ _ _,?_⟩;rw[jO] at hX;cases a2:wi f.facts[k].at_ 0 ((f.signs.length:Int)-1)
  .simp[a2] at hX ⊢
   first|exact hX|(exfalso;omega)
  simp[a2] at hX ⊢;refine⟨_,eA _ _ _,?_⟩;cases a3:wi f.facts[k].n 0 1
  .simp[a3] at hX ⊢
   first|exact hX|(exfalso;omega)
  simp[a3] at hX ⊢;by_cases k0:k=0
  .subst k0;simp at hX ⊢
   first|(exfalso;omega)|done
  .have bq:i64.wrap ((k:Int)-1)=(k:Int)-1:=bn (by omega);have cn:((k:Int)-1).toNat=k-1:=by omega
   have fB:k-1<f.facts.length:=by omega
   simp[k0,fB] at hX;simp[k0,bq,cn,fB];refine⟨by omega,_,ZG _ _,_,ZG _ _,?_⟩;have ho:=aj0 [qO f.facts[k-1].at_ f.facts[k].at_,qO f.facts[k-1].kind f.facts[k].kind] (by simp);simp only[lQ,sq] at ho;rw[or2] at ho;refine⟨_,ho,?_⟩;have ha:=akf f.facts[k-1] f.facts[k];generalize (if qO f.facts[k-1].at_ f.facts[k].at_=0 then qO f.facts[k-1].kind f.facts[k].kind else qO f.facts[k-1].at_ f.facts[k].at_)=n at*;clear ho;by_cases e:tT f.facts[k-1] f.facts[k]
   .have hn:¬0<=n:=λh=>ha.1 h e;simp[e] at hX;simp[hn]
    first|done|(exfalso;omega)
   .have hn:0<=n:=ha.2 e;simp[e] at hX;simp[hn]
    first|exact hX|(exfalso;omega)
def gZ (f:File)(i:Nat):Int:=
 let x:=f.alters.getD i default
 if wi x.at_ ((if i=0 then 0 else(f.alters.getD (i-1) default).at_)+1) f.signs.length=false then 1 else if wi x.sum 1 1099511627776=false then 3 else 0
structure PaperOK (r:Realm) (f:File):Prop where
 full:(f.signs.length<=40/\f.alters.length<=4)/\f.acts.length<=100/\f.facts.length<=200
 bill:BillOK r f.bill
 ne:f.signs≠[]
 signs:da f.signs.length (kr r f)=0
 alters:da f.alters.length (gZ f)=0
 acts:da f.acts.length (jZ r f)=0
 facts:da f.facts.length (mC f)=0
def avj (r:Realm)(hs:Small r)(f:File)(iQ:f.OK):∃d,aq T 24 [aX r,aS f] d/\qF (PaperOK r f) d:=by
 refine aq.ex_of_tree rfl Z9 aiT ?_;simp[N6];by_cases hf:(f.signs.length<=40/\f.alters.length<=4)/\f.acts.length<=100/\f.facts.length<=200
 case neg=>
  rw[if_pos (by omega)];exact .no (λh=>hf h.full) (by decide)
 rw[if_neg (by omega)];obtain⟨d,hb,e,rfl,he⟩:=aBl r hs f.bill;refine⟨_,hb,?_⟩;by_cases e0:e=0
 case neg=>
  simp[e0];exact .no (λh=>e0 (he.2 h.bill)) e0
 have Fi:=he.1 e0;simp[e0];by_cases aF:f.signs=[]
 .simp[aF];exact .no (λh=>h.ne aF) (by decide)
 simp[aF];refine nT f.signs.length (kr r f) (λk=>[.int 0,.int k]) (λ_=>[]) ?_ (λk hk ho=>?_) (λk hk ho hb=>?_) (λhj=>?_)
 .simp
 .have hw:=aV hk (by omega);simp[Dh,xk,hk,hw];refine⟨_,Mx r hs f Fi.parts k hk (by omega),?_⟩;simp[ho]
 .simp[Dh,xk,hk];refine⟨_,Mx r hs f Fi.parts k hk (by omega),?_⟩;simp[ho];exact .no (λh=>ho (by rw[<-hb];exact h.signs)) ho
 simp[Dh,xk];have gR:∀k,k<f.alters.length->(∀j,j<k->gZ f j=0)->i64.wrap ((if k=0 then 0 else(f.alters.getD (k-1) default).at_)+1)=(if k=0 then 0 else(f.alters.getD (k-1) default).at_)+1:=by
  intro k hk hj;refine bn ?_;by_cases k0:k=0
  .rw[if_pos k0];omega
  .rw[if_neg k0];have h1:=hj (k-1) (by omega);have bq:k-1<f.alters.length:=by omega
   have h2:=(iQ.2.2.1.2 _ (cG bq)).1;have h3:f.alters.getD (k-1) default=f.alters[k-1]:=by simp[bq]
   unfold gZ at h1;rw[h3] at h1 ⊢;simp only at h1;generalize (if k-1=0 then(0:Int) else(f.alters.getD (k-1-1) default).at_)=L0 at h1;split at h1
   .cases h1
   .rename_i hh;simp[wi] at hh;unfold aQ at h2;omega
 refine aN.scan f.alters.length (λk=>gZ f k=0) (λk=>[.int 0,.int (if k=0 then 0 else(f.alters.getD (k-1) default).at_),.int k]) (λ_=>[]) ?_ (λk hk mH ho=>?_) (λk hk mH ho=>?_) (λri=>?_)
 .simp
 .have hw:=aV hk (by omega);have hl:=gR k hk mH;generalize hL:(if k=0 then 0 else(f.alters.getD (k-1) default).at_)=L at*;have hs:f.alters.getD k default=f.alters[k]:=by simp[hk]
  unfold gZ at ho;simp only[hs,hL] at ho;simp[Di,xl,hk,hl];refine⟨_,eA _ _ _,?_⟩;cases a1:wi f.alters[k].at_ (L+1) f.signs.length
  .simp[a1] at ho
  simp[a1] at ho ⊢;refine⟨_,eA _ _ _,?_⟩;simp[ho,hw]
 .have hl:=gR k hk mH;have yJ:=EV hk mH ho;generalize hL:(if k=0 then 0 else(f.alters.getD (k-1) default).at_)=L at*;have hs:f.alters.getD k default=f.alters[k]:=by simp[hk]
  have bad:∀e:Int,e≠0->qF (PaperOK r f) (.int e):=λe h=>.no (λh=>ho (by rw[<-yJ];exact h.alters)) h;unfold gZ at ho;simp only[hs,hL] at ho;simp[Di,xl,hk,hl];refine⟨_,eA _ _ _,?_⟩;cases a1:wi f.alters[k].at_ (L+1) f.signs.length
  .simp;exact bad 1 (by decide)
  simp[a1] at ho ⊢;refine⟨_,eA _ _ _,?_⟩;simp[ho];exact bad 3 (by decide)
 have ri:=EW ri;simp[Di,xl];refine⟨_,agp r hs f Fi.parts (by omega) (by omega),?_⟩;by_cases e3:da f.acts.length (jZ r f)=0
 case neg=>
  simp[e3];exact .no (λh=>e3 h.acts) e3
 simp[e3];refine⟨_,agq f (by omega) (by omega),?_⟩;exact⟨_,rfl,λh=>⟨hf,Fi,aF,hj,ri,e3,h⟩,λh=>h.facts⟩
structure Ig (r:Realm) (f:File) (i:Nat) (a:Act):Prop where
 part:0<=a.part/\a.part<=f.bill.parts-1
 city:0<=a.city/\a.city<r.cities.length
 kind:0<=a.kind/\a.kind<=9
 fits:pD r f a=true
 day:LZ f i a<=a.day/\a.day<=100000
def C9 (n m:Int):aq T 82 [.int n,.int m] (.bool (aw n m)):=by
 refine zyw 124 ay3 ?_;simp[Xk];by_cases h:0<=n<;>simp[aw,h]
def avE (n:Int):aq T 84 [.int n] (.bool (BI n)):=by
 refine zyw 126 ayI ?_;simp[WZ];by_cases h:0<=n<;>simp[BI,h]
def vD (fr to:Int)(u:Usance):Bool:=decide (u.fr=fr)&&decide (u.to=to)
def Af (l:List Usance)(fr to:Int):Int×Int:=match l.find? (vD fr to) with|some u=>(u.days,0)|none=>(0,4)
def aj2 (r:Realm)(fr to:Int)(hl:r.usances.length<=100000):aq T 77 [aX r,.int fr,.int to] (.tup [.int (Af r.usances fr to).1,.int (Af r.usances fr to).2]):=by
 refine .of_tree rfl aab aiV ?_;simp[Oi];unfold Af;refine aN.scan r.usances.length (λk=>vD fr to (r.usances.getD k default)=false) (λk=>[.int 0,.int 0,.int k]) (λ_=>[]) ?_ (λk hk hj aC=>?_) (λk hk hj aC=>?_) (λhj=>?_)
 .simp
 .have hw:=aV hk (by omega);have hn:¬(r.usances[k].fr=fr/\r.usances[k].to=to):=by simpa [vD,hk] using aC
  simp[Dp,xm,hk,hw,hn]
 .have eJ:=v5 hk (by simpa [hk] using aC) (λj bR=>by have:=hj j bR;simpa [show j<r.usances.length by omega] using this);have hc:r.usances[k].fr=fr/\r.usances[k].to=to:=by simpa [vD,hk] using aC
  rw[eJ];simp[Dp,xm,hk,hc]
 .have eJ:=yr (l:=r.usances) (p:=vD fr to) (λj bR=>by have:=hj j bR;simpa [bR] using this);rw[eJ];simp[Dp,xm]
def avK (r:Realm)(fr to:Int)(hl:r.usances.length<=100000):aq T 86 [aX r,.int fr,.int to] (.tup [.int (Af r.usances fr to).1,.int (Af r.usances fr to).2]):=by
 refine zyw 128 ayT ?_;simp[Xa];unfold Af;refine aN.scan r.usances.length (λk=>vD fr to (r.usances.getD k default)=false) (λk=>[.int 0,.int 0,.int k]) (λ_=>[]) ?_ (λk hk hj aC=>?_) (λk hk hj aC=>?_) (λhj=>?_)
 .simp
 .have hw:=aV hk (by omega);have hn:¬(r.usances[k].fr=fr/\r.usances[k].to=to):=by simpa [vD,hk] using aC
  simp[U5,G4,hk,hw,hn]
 .have eJ:=v5 hk (by simpa [hk] using aC) (λj bR=>by have:=hj j bR;simpa [show j<r.usances.length by omega] using this);have hc:r.usances[k].fr=fr/\r.usances[k].to=to:=by simpa [vD,hk] using aC
  rw[eJ];simp[U5,G4,hk,hc]
 .have eJ:=yr (l:=r.usances) (p:=vD fr to) (λj bR=>by have:=hj j bR;simpa [bR] using this);rw[eJ];simp[U5,G4]
instance (b:Bill):Decidable (m7 b):=by unfold m7;infer_instance
instance (b:Bill):Decidable (ur b):=by unfold ur;infer_instance
def mz (r:Realm)(b:Bill):Int:=
 if eO r≠0 then eO r else if nk r b=false\/mq r b=false then 1 else if ¬m7 b then 3 else if ¬(1<=b.parts/\b.parts<=4) then 15 else if ¬ur b then 2 else if b.tenor.kind=4 then(Af r.usances b.city b.pay).2 else 0
def aha (n m:Int):aq T 83 [.int n,.int m] (.bool (jQ n m)):=by
 refine zyw 125 ay4 ?_;unfold jQ;by_cases h:n=-1
 .simp[N9,h]
 .simp[N9,h];exact C9 n m
def avU (b:Bill):aq T 85 [fK b] (.bool (vA b)):=by
 refine zyw 127 ay2 ?_;unfold vA;simp[Xj,bH];by_cases h0:b.tenor.kind=0
 .by_cases h1:b.tenor.n=0<;>simp[h0,h1]
 by_cases h4:b.tenor.kind=4
 .by_cases h1:b.tenor.n=0<;>simp[h4,h1]
 simp[h0,h4];by_cases k1:b.tenor.kind=1
 .by_cases h1:1<=b.tenor.n<;>by_cases h2:b.tenor.n<=400<;>by_cases h3:b.tenor.unit=0<;>simp[k1,h1,h2,h3]
 by_cases k2:b.tenor.kind=2
 .by_cases h1:1<=b.tenor.n<;>by_cases h2:b.tenor.n<=400<;>by_cases h3:b.tenor.unit=0<;>simp[k2,h1,h2,h3]
 simp[k1,k2];by_cases k3:b.tenor.kind=3
 .by_cases h1:b.day<=b.tenor.n<;>by_cases h2:b.tenor.n<=100000<;>simp[k3,h1,h2]
 simp[k3]
def avT (r:Realm)(hs:Small r)(b:Bill):aq T 61 [aX r,fK b] (.int (mz r b)):=by
 refine zyw 123 ay1 ?_;generalize hX:mz r b=X;unfold mz at hX;simp[Xi];refine⟨_,ag6 r hs,?_⟩;by_cases h0:eO r=0
 case neg=>rw[if_pos h0] at hX;subst hX;simp[h0]
 rw[if_neg (by simpa using h0)] at hX;simp[h0];unfold nk mq at hX;refine⟨_,C9 _ _,?_⟩;cases h1:aw b.drawer r.firms.length
 .simpa [h1] using hX
 simp;refine⟨_,C9 _ _,?_⟩;cases h2:aw b.drawee r.firms.length
 .simpa [h2] using hX
 simp;refine⟨_,aha _ _,?_⟩;cases h3:jQ b.payee r.firms.length
 .simpa [h3] using hX
 simp;refine⟨_,aha _ _,?_⟩;cases h4:jQ b.need r.firms.length
 .simpa [h4] using hX
 simp;refine⟨_,C9 _ _,?_⟩;cases h5:aw b.currency r.currencies.length
 .simpa [h5] using hX
 simp;refine⟨_,C9 _ _,?_⟩;cases h6:aw b.city r.cities.length
 .simpa [h6] using hX
 simp;refine⟨_,C9 _ _,?_⟩;cases h7:aw b.pay r.cities.length
 .simpa [h7] using hX
 simp;rw[if_neg (by simp[h1,h2,h3,h4,h5,h6,h7])] at hX;have hv:=avE b.day;by_cases h8:m7 b
 case neg=>
  rw[if_pos h8] at hX;subst hX;by_cases g1:1<=b.sum/\b.sum<=1099511627776
  case neg=>simp[g1,show b.sum<1\/1099511627776<b.sum by omega]
  simp[g1,show ¬(b.sum<1\/1099511627776<b.sum) by omega];refine⟨_,hv,?_⟩;unfold m7 at h8;by_cases g2:BI b.day=true
  .simp[g2];simp[BI] at g2;omega
  .simp[g2]
 rw[if_neg (by simpa using h8)] at hX;have uw:=h8;unfold m7 at uw;simp[show 1<=b.sum/\b.sum<=1099511627776 by omega,show ¬(b.sum<1\/1099511627776<b.sum) by omega];refine⟨_,hv,?_⟩;have g2:BI b.day=true:=by simp[BI];omega
 simp[g2,show ¬b.rate<0 by omega,show ¬1000<b.rate by omega];by_cases h9:1<=b.parts/\b.parts<=4
 case neg=>
  rw[if_pos h9] at hX;subst hX;rw[if_pos (by omega)]
 rw[if_neg (by simpa using h9)] at hX;rw[if_neg (by omega)];have ht:=avU b;by_cases gL:ur b
 case neg=>
  rw[if_pos gL] at hX;subst hX;unfold ur at gL;by_cases g3:0<=b.flags/\b.flags<=7
  case neg=>simp[g3,show b.flags<0\/7<b.flags by omega]
  have QG:¬(b.flags<0\/7<b.flags):=by omega
  by_cases g4:¬b.payee=-1\/cC .and .i64 b.flags 4=0
  case neg=>
   simp only[not_or,Ik] at g4;simp[g3,g4]
  have g4':¬(b.payee=-1/\¬cC .and .i64 b.flags 4=0):=λh=>g4.elim (λk=>k h.1) (λk=>h.2 k);simp[g3,QG,g4,g4'];refine⟨_,ht,?_⟩;have g6:vA b=false:=by
   cases h:vA b
   .rfl
   .refine absurd ⟨⟨g3,?_⟩,h⟩ gL;exact g4.symm
  simp[g6]
 rw[if_neg (by simpa using gL)] at hX;obtain⟨⟨g3,g4⟩,g5⟩:=gL;have QG:¬(b.flags<0\/7<b.flags):=by omega
 have g6:¬(b.payee=-1/\¬cC .and .i64 b.flags 4=0):=λh=>g4.elim (λk=>h.2 k) (λk=>k h.1);simp[g3,QG,g4.symm,g6];refine⟨_,ht,?_⟩;simp[g5];by_cases mD:b.tenor.kind=4
 .simp[mD] at hX ⊢;refine⟨_,avK r b.city b.pay (by have:=hs.us;omega),?_⟩;simp[hX]
 .simp[mD] at hX ⊢;exact hX
def au2 {n:Int}(h:aQ n):cC .or .i64 n 1=1↔n=0\/n=1:=by
 constructor
 .intro e;simp only[cC] at e;generalize hm:(BitVec.ofInt IntKind.i64.bits n|||BitVec.ofInt IntKind.i64.bits 1).toNat=m at e;have ao:m<18446744073709551616:=by rw[<-hm];exact BitVec.isLt _
  have h1:m=1:=by
   simp only[IntKind.wrap,IntKind.signed,IntKind.bits] at e;simp at e;split at e<;>omega
  rw[h1,BitVec.toNat_or] at hm;have h2:(BitVec.ofInt IntKind.i64.bits n).toNat<=1:=by rw[<-hm];exact Nat.left_le_or
  have h3:((BitVec.ofInt IntKind.i64.bits n).toNat:Int)=n%18446744073709551616:=by
   rw[BitVec.toNat_ofInt];show((n%((2^IntKind.i64.bits:Nat):Int)).toNat:Int)=_;have:((2^IntKind.i64.bits:Nat):Int)=18446744073709551616:=by decide
   rw[this];omega
  unfold aQ at h;omega
 .rintro(rfl|rfl)<;>decide
def ahf (f:File)(i part:Int)(h:i=0\/(0<=i/\i<f.signs.length)):aq T 111 [aS f,.int i,.int part] (.bool (qw f i part)):=by
 refine zyw 132 ay8 ?_;unfold qw;by_cases h0:i=0
 .simp[Oa,h0]
 .obtain⟨h1,h2⟩:=h.resolve_left h0;have h3:i.toNat<f.signs.length:=by omega
  simp[Oa,h0,h1,h2,h3,cl]
def vT (f:File)(i:Int):Bool:=wi (cl f i).for_ 0 (i-1)&&qw f (cl f i).for_ (cl f i).part
def av2 (f:File)(i:Int)(h:0<=i/\i<f.signs.length)(hl:f.signs.length<=100000):aq T 110 [aS f,.int i] (.bool (vT f i)):=by
 refine zyw 131 azb ?_;have h1:i.toNat<f.signs.length:=by omega
 have hw:i64.wrap (i-1)=i-1:=bn (by omega);have hs:cl f i=f.signs[i.toNat]:=by simp[cl,h1]
 unfold vT;rw[hs];simp[Xq,h,h1,hw];refine⟨_,bJ _ _ _,?_⟩;cases hb:wi f.signs[i.toNat].for_ 0 (i-1)
 .simp
 .simp[wi] at hb;simp;exact ahf f _ _ (.inr (by omega))
def akL (f:File)(i:Int)(ks:List Int):Ar f i ks=(vT f i&&hasB ks (cl f (cl f i).for_).kind):=by
 unfold Ar vT;rw[Ii]
def akJ {f:File}{i:Int}(h:0<=i/\i<f.signs.length)(hb:vT f i=true):0<=(cl f i).for_/\(cl f i).for_<i:=by
 unfold vT at hb;simp[wi] at hb;omega
def amU {r:Realm}{f:File}{i:Nat}(hi:i<f.signs.length)(h:qZ r f i=true):0<=f.signs[i].kind/\f.signs[i].kind<=4:=by
 have hs:f.signs.getD i default=f.signs[i]:=by simp[hi]
 unfold qZ at h;rw[hs] at h;unfold EY KG at h
 repeat' split at h
 all_goals first|(cases h;done)|omega
set_option maxRecDepth 4000 in
def av0 (r:Realm)(hr:Small r)(f:File)(i:Nat)(h:i<f.signs.length)(hl:f.signs.length<=100000)(FO:∀j (hj:j<i),0<=(f.signs[j]'(by omega)).kind/\(f.signs[j]'(by omega)).kind<=4)
 (yE:i=0->f.signs[i].day=f.bill.day) (iQ:aQ f.signs[i].flags):aq T 87 [aX r,aS f,.int i] (.bool (qZ r f i)):=by
 refine zyw 130 ay7 ?_;have eJ:=hr.firms;have hw:i64.wrap ((r.firms.length:Int)-1)=(r.firms.length:Int)-1:=bn (by omega);have hs:f.signs.getD i default=f.signs[i]:=by simp[h]
 have hsA:cl f (i:Int)=f.signs[i]:=by simp[cl,h]
 have pQ:=av2 f i ⟨by omega,by omega⟩ hl;have K9:=akJ (f:=f) (i:=i) ⟨by omega,by omega⟩;have wh:=akL f i;generalize hX:qZ r f i=X;unfold qZ at hX;rw[hs] at hX;rw[hsA] at wh K9
 have Rd:∀n:Int,0<=n->n<i->∃hn:n.toNat<f.signs.length,(cl f n)=f.signs[n.toNat]/\0<=f.signs[n.toNat].kind/\f.signs[n.toNat].kind<=4:=λn h1 h2=>by
  have hn:n.toNat<f.signs.length:=by omega
  exact⟨hn,by simp[cl,hn],FO n.toNat (by omega)⟩
 simp[Xn,h,hw,bH];refine⟨_,bJ _ _ _,?_⟩;generalize f.signs[i]=s at*;unfold EY KG at hX;by_cases k0:s.kind=0
 .simp[k0] at hX ⊢;have ho:=au2 iQ;by_cases a1:i=0
  case neg=>simp[a1] at hX ⊢;exact hX
  by_cases a2:s.to=-1
  case neg=>simp[a1,a2] at hX ⊢;exact hX
  by_cases a3:s.for_=-1
  case neg=>simp[a1,a2,a3] at hX ⊢;exact hX
  simp[a1,a2,a3,yE a1] at hX ⊢;rw[<-hX];by_cases b1:s.who=f.bill.drawer<;>by_cases b2:s.sum=0<;>by_cases b3:s.part=0<;>simp[b1,b2,b3];by_cases b4:s.flags=0\/s.flags=1
  .simp[b4,ho.2 b4]
  .simp[b4];intro e;exact absurd (ho.1 e) b4
 have gP:¬(s.kind=0):=k0;by_cases k1:s.kind=1
 .simp[k1] at hX ⊢;by_cases a1:i=0
  .simp[a1] at hX ⊢;exact hX
  have Ap:0<i:=by omega
  by_cases a2:s.to=-1
  case neg=>simp[a1,Ap,a2] at hX ⊢;exact hX
  by_cases a3:s.for_=-1
  case neg=>simp[a1,Ap,a2,a3] at hX ⊢;exact hX
  simp[a1,Ap,a2,a3] at hX ⊢;rw[<-hX];by_cases b1:s.who=f.bill.drawee<;>cases wi s.sum 1 1099511627776<;>simp[b1]
 by_cases k2:s.kind=2
 .simp[k2] at hX ⊢;by_cases a1:i=0
  .simp[a1] at hX ⊢;exact hX
  have Ap:0<i:=by omega
  by_cases a3:s.for_=-1
  case neg=>simp[a1,Ap,a3] at hX ⊢;exact hX
  simp[a1,Ap,a3] at hX ⊢;refine⟨_,bJ _ _ _,?_⟩;cases b1:wi s.to (-1) ((r.firms.length:Int)-1)
  .simpa [b1] using hX
  by_cases b2:s.sum=0
  case neg=>simpa [b1,b2] using hX
  simp[b1,b2] at hX ⊢;refine⟨_,bJ _ _ _,?_⟩;cases b3:wi s.flags 0 7
  .simpa [b3] using hX
  simp[b3] at hX ⊢;simp[wi] at b3;generalize s.flags=fl at*;clear iQ hs hsA wh K9 yE Rd pQ;obtain rfl|rfl|rfl|rfl|rfl|rfl|rfl|rfl:fl=0\/fl=1\/fl=2\/fl=3\/fl=4\/fl=5\/fl=6\/fl=7:=by omega
  all_goals
   revert hX
   cases X<;>decide
 by_cases k3:s.kind=3
 .simp[k3] at hX ⊢;by_cases a1:i=0
  .simp[a1] at hX ⊢;exact hX
  by_cases a2:s.to=-1
  case neg=>simp[a1,a2] at hX ⊢;exact hX
  simp[a1,a2] at hX ⊢;by_cases b1:s.sum=0
  case neg=>simpa [b1] using hX
  by_cases b2:s.flags=0
  case neg=>simpa [b1,b2] using hX
  simp[b1,b2] at hX ⊢;refine⟨_,pQ,?_⟩;rw[wh] at hX;cases b3:vT f i
  .simpa [b3] using hX
  obtain⟨c1,c2⟩:=K9 b3;obtain⟨c3,c4,c5,c6⟩:=Rd _ c1 c2;rw[c4] at hX;simp[b3] at hX ⊢;simp[c1,c3,show s.for_<(f.signs.length:Int) by omega];generalize f.signs[s.for_.toNat].kind=kk at*;obtain rfl|rfl|rfl|rfl|rfl:kk=0\/kk=1\/kk=2\/kk=3\/kk=4:=by omega
  all_goals
   revert hX
   cases X<;>decide
 by_cases k4:s.kind=4
 .simp[k4] at hX ⊢;by_cases a1:i=0
  .simp[a1] at hX ⊢;exact hX
  by_cases a2:s.to=-1
  case neg=>simp[a1,a2] at hX ⊢;exact hX
  simp[a1,a2] at hX ⊢;cases b1:wi s.sum 1 1099511627776
  .simpa [b1] using hX
  by_cases b2:s.flags=0
  case neg=>simpa [b1,b2] using hX
  by_cases b4:s.who=f.bill.drawee
  .simpa [b1,b2,b4] using hX
  simp[b1,b2,b4] at hX ⊢;refine⟨_,pQ,?_⟩;rw[wh] at hX;cases b3:vT f i
  .simpa [b3] using hX
  obtain⟨c1,c2⟩:=K9 b3;obtain⟨c3,c4,c5,c6⟩:=Rd _ c1 c2;rw[c4] at hX;simp[b3] at hX ⊢;simp[c1,c3,show s.for_<(f.signs.length:Int) by omega];generalize f.signs[s.for_.toNat].kind=kk at*;obtain rfl|rfl|rfl|rfl|rfl:kk=0\/kk=1\/kk=2\/kk=3\/kk=4:=by omega
  all_goals
   revert hX
   cases X<;>simp[hasB]
 simp[k0,k1,k2,k3,k4] at hX ⊢;exact hX
def axz {r:Realm}{f:File}{i:Nat}(hi:i<f.signs.length)(h:kr r f i=0):0<=f.signs[i].kind/\f.signs[i].kind<=4:=by
 unfold kr at h;simp only at h;split at h
 .cases h
 split at h
 .cases h
 split at h
 .cases h
 split at h
 .cases h
 rename_i a4;exact amU hi (by simpa using a4)
def av5 (f:File)(i:Nat)(h:i<f.signs.length)(hl:f.signs.length<=100000)(O:Env)(h2:O.r 2=.int i)(h6:O.r 6=.int 0)(h8:O.r 8=.int 0)(h7:O.o 7=fy f.signs[i])(h4:O.o 4=aS f){Q:Out->Prop}
 (hn:tJ f i f.signs[i]=false->∀O',Q (.next O')) (hr:tJ f i f.signs[i]=true->Q (.ret (.int 5))):aN T (L7 Ed) O Q:=by
 by_cases k1:f.signs[i].kind=1
 .refine aN.scan i (λk=>¬((f.signs.getD k default).kind=1/\(f.signs.getD k default).part=f.signs[i].part)) (λk=>[.int 0,.int k]) (λ_=>[]) ?_ (λk hk hj ho=>?_) (λk hk hj ho=>?_) (λhj=>?_)
  .simp[h6,h8]
  .have hw:=aV hk (by omega);have bh:k<f.signs.length:=by omega
   simp[bh] at ho;simp[No,Dl,h2,h4,h7,hk,bh,k1,hw];intro a b;exact absurd b (ho a)
  .have bh:k<f.signs.length:=by omega
   simp[bh] at ho;simp[No,Dl,h2,h4,h7,hk,bh,k1,ho];refine hr ?_;unfold tJ;rw[jA];exact⟨f.signs[k],OE.2 ⟨k,by omega,rfl⟩,by simp[k1,ho]⟩
  .simp[No,Dl,h2,h4,h7,k1];refine hn ?_ _;unfold tJ;rw[Ov];intro x hx;obtain⟨k,hk,rfl⟩:=OE.1 hx;have:=hj k (by omega);simp[show k<f.signs.length by omega] at this;simp[k1];exact this
 .refine aN.scan 0 (λk=>True) (λk=>[.int 0,.int k]) (λ_=>[]) ?_ (λk hk hj ho=>absurd hk (by omega)) (λk hk hj ho=>absurd hk (by omega)) (λhj=>?_)
  .simp[h6,h8]
  .simp[No,Dl,h2,h4,h7,k1];refine hn ?_ _;unfold tJ;rw[Ov];intro x hx;simp[k1]
set_option maxRecDepth 4000 in
def av4 (r:Realm)(hr:Small r)(f:File)(hp:1<=f.bill.parts/\f.bill.parts<=4)(i:Nat)(h:i<f.signs.length)(hl:f.signs.length<=100000)(FO:∀j,j<i->kr r f j=0)(iQ:aQ f.signs[i].flags):
 aq T 62 [aX r,aS f,.int i] (.int (kr r f i)):=by
 refine zyw 129 azd ?_;have eJ:=hr.firms;have Q5:=hr.cities;have dP:i64.wrap ((r.firms.length:Int)-1)=(r.firms.length:Int)-1:=bn (by omega);have di:i64.wrap ((r.cities.length:Int)-1)=(r.cities.length:Int)-1:=bn (by omega);have y9:i64.wrap (f.bill.parts-1)=f.bill.parts-1:=bn (by omega);have hs:f.signs.getD i default=f.signs[i]:=by simp[h]
 have yK:=λhd=>av0 r hr f i h hl (λj hj=>axz (by omega) (FO j hj)) hd iQ;generalize hX:kr r f i=X;unfold kr at hX;simp only[hs] at hX;simp[Xs,h,dP,di,y9,bH];refine⟨_,bJ _ _ _,?_⟩;cases a1:wi f.signs[i].part 0 (f.bill.parts-1)
 .simpa [a1] using hX
 simp[a1] at hX ⊢;refine⟨_,bJ _ _ _,?_⟩;rw[jO] at hX;cases a2:wi f.signs[i].who 0 ((r.firms.length:Int)-1)
 .simpa [a2] using hX
 simp[a2] at hX ⊢;refine⟨_,bJ _ _ _,?_⟩;rw[jO] at hX;cases a3:wi f.signs[i].city 0 ((r.cities.length:Int)-1)
 .simpa [a3] using hX
 simp[a3] at hX ⊢
 have fin:∀O:Env,O.r 2=.int i->O.r 6=.int 0->O.r 8=.int 0->O.o 7=fy f.signs[i]->O.o 4=aS f->(if tJ f i f.signs[i]=true then 5 else 0)=X->aN T (L7 Ed) O (iy (λ_=>0=X) λx=>x=Out.ret (D.int X)):=by
  intro O h2 h6 h8 h7 h4 hx;refine av5 f i h hl O h2 h6 h8 h7 h4 (λht O'=>?_) (λht=>?_)
  .rw[if_neg (by simp[ht])] at hx;exact hx
  .rw[if_pos ht] at hx;show Out.ret (D.int 5)=_;rw[hx]
 by_cases i0:i=0
 .have uB:pK f i=f.bill.day:=by simp[pK,i0]
  rw[uB] at hX;by_cases d1:f.signs[i].day=f.bill.day/\f.signs[i].day<=100000
  case neg=>
   have:13=X:=by
        rw[if_pos] at hX
        .exact hX
        .by_cases e:f.signs[i].day=f.bill.day
         .left;simp[wi];omega
         .exact .inr ⟨i0,e⟩
   rw[if_pos (by by_cases e:f.signs[i].day=f.bill.day
                 .right;omega
                 .exact .inl ⟨i0,e⟩)]
   exact this
  rw[if_neg (by rintro(h|h)
                .simp[wi] at h;omega
                .exact h.2 d1.1)] at hX
  rw[if_neg (by rintro(h|h)
                .exact h.2 d1.1
                .omega),if_neg (by omega)]
  refine⟨_,yK (λ_=>d1.1),?_⟩;cases a4:qZ r f i
  .simpa [a4] using hX
  simp[a4] at hX;simp only[Qh,if_true];exact fin _ (by simp) (by simp) (by simp) (by simp[h,bH]) (by simp) hX
 .have uB:pK f i=f.signs[i-1].day:=by simp[pK,i0,show i-1<f.signs.length by omega]
  have bq:i64.wrap ((i:Int)-1)=(i:Int)-1:=bn (by omega);have cn:((i:Int)-1).toNat=i-1:=by omega
  have fB:i-1<f.signs.length:=by omega
  rw[uB] at hX;simp[i0] at hX;by_cases d1:100000<f.signs[i].day
  .rw[if_pos (by simp[wi];omega)] at hX;rw[if_pos (.inr d1)];exact hX
  rw[if_neg (by rintro(h|h)
                .exact i0 h.1
                .exact d1 h),if_pos (by omega)]
  simp[bq,cn,fB];refine⟨by omega,?_⟩;by_cases d2:f.signs[i].day<f.signs[i-1].day
  .rw[if_pos (by simp[wi];omega)] at hX;rw[if_pos d2];exact hX
  rw[if_neg (by simp[wi];omega)] at hX;rw[if_neg d2];refine⟨_,yK (λe=>absurd e i0),?_⟩;cases a4:qZ r f i
  .simpa [a4] using hX
  simp[a4] at hX;simp only[Qh,if_true];exact fin _ (by simp) (by simp) (by simp) (by simp[h,bH]) (by simp) hX
def Sq (c:Prop)[Decidable c](x:Bool):(if c then D.bool x else D.bool false)=D.bool (decide c&&x):=by split<;>simp[*]
def Sr (c:Prop)[Decidable c](x:Bool):(if c then D.bool true else D.bool x)=D.bool (decide c||x):=by split<;>simp[*]
set_option maxRecDepth 4000 in
def avY (r:Realm)(hr:Small r)(f:File)(a:Act)(hl:f.signs.length<=100000)(hk:0<=a.kind/\a.kind<=9):aq T 88 [aX r,aS f,ib a] (.bool (pD r f a)):=by
 refine zyw 134 ay5 ?_;have eJ:=hr.firms;have dP:i64.wrap ((r.firms.length:Int)-1)=(r.firms.length:Int)-1:=bn (by omega);have di:i64.wrap ((f.signs.length:Int)-1)=(f.signs.length:Int)-1:=bn (by omega);generalize hX:pD r f a=X;unfold pD at hX;simp[Xl,dP,di];refine⟨_,bJ _ _ _,?_⟩;rw[<-jO];cases uO:aw a.who r.firms.length
 .simpa [uO] using hX
 simp[uO] at hX ⊢;refine⟨_,bJ _ _ _,?_⟩;rw[<-jO];refine⟨_,bJ _ _ _,_,bJ _ _ _,?_⟩;rw[<-jO];have dL:wi a.sum 1 1099511627776=(wi a.sum 0 1099511627776&&decide (0<a.sum)):=by
  rw[sc];simp[wi];omega
 have hfm:wi a.form 0 1=(decide (a.form=0)||decide (a.form=1)):=by
  rw[sc];simp[wi];omega
 unfold D3 at hX;rw[dL,hfm] at hX;have fin:∀at_ own:Bool,(if ¬a.kind=4/\¬a.form=0 then false else if a.kind=0\/a.kind=1\/a.kind=2 then(aw a.to r.firms.length&&decide (a.at_=-1))&&decide (a.sum=0)
  else if a.kind=3\/a.kind=4\/a.kind=5 then((aw a.to r.firms.length&&decide (a.at_=-1))&&wi a.sum 0 1099511627776)&&(decide (a.form=0)||decide (a.form=1))
  else if a.kind=6 then(aw a.to r.firms.length&&own)&&(wi a.sum 0 1099511627776&&decide (0<a.sum))
  else if a.kind=9 then(decide (a.to=-1)&&own)&&decide (a.sum=0)
  else(decide (a.to=-1)&&at_)&&decide (a.sum=0))=X->
  (if a.kind=0\/a.kind=1\/a.kind=2 then((aw a.to r.firms.length&&decide (a.at_=-1))&&decide (a.sum=0))&&decide (a.form=0)
   else if a.kind=3\/a.kind=5 then((aw a.to r.firms.length&&decide (a.at_=-1))&&wi a.sum 0 1099511627776)&&decide (a.form=0)
   else if a.kind=4 then((aw a.to r.firms.length&&decide (a.at_=-1))&&wi a.sum 0 1099511627776)&&(decide (a.form=0)||decide (a.form=1))
   else if a.kind=6 then(((aw a.to r.firms.length&&own)&&wi a.sum 0 1099511627776)&&decide (0<a.sum))&&decide (a.form=0)
   else if a.kind=9 then((decide (a.to=-1)&&own)&&decide (a.sum=0))&&decide (a.form=0)
   else if a.kind=7\/a.kind=8 then((decide (a.to=-1)&&at_)&&decide (a.sum=0))&&decide (a.form=0)
   else false)=X:=by
  intro at_ own hX;rw[<-hX];by_cases hf:a.form=0
  .simp only[hf,not_true,and_false,if_false,decide_true,Bool.and_true,xM];obtain h|h|h|h|h|h|h|h|h|h:a.kind=0\/a.kind=1\/a.kind=2\/a.kind=3\/a.kind=4\/a.kind=5\/a.kind=6\/a.kind=7\/a.kind=8\/a.kind=9:=by omega
   all_goals simp[h,Ii]
  .by_cases h4:a.kind=4
   .simp[h4,hf]
   .simp only[h4,hf,not_false_eq_true,and_self,if_true,decide_false,xK,if_false]
    repeat' split
    all_goals first|rfl|(rename_i h;exact absurd h.symm (by omega))
 have kJ:a.kind=0\/a.kind=1\/a.kind=2\/a.kind=3\/a.kind=4\/a.kind=5\/a.kind=6\/a.kind=7\/a.kind=8\/a.kind=9:=by omega
 cases h1:aw a.at_ f.signs.length
 .have ux:=fin false false (by simpa [Gy,x9,h1] using hX);clear fin hX;simp;obtain h|h|h|h|h|h|h|h|h|h:=kJ
  all_goals
   simp[h] at ux ⊢
   first
        |done
        |(subst ux
          simp[Sq,Sr,Ii,ZC])
 .have cD:0<=a.at_/\a.at_<f.signs.length:=by simpa [aw] using h1
  have h2:a.at_.toNat<f.signs.length:=by omega
  have hs:cl f a.at_=f.signs[a.at_.toNat]:=by simp[cl,h2]
  have oI:=ahf f a.at_ a.part (.inr cD);have ux:=fin (qw f a.at_ a.part) (qw f a.at_ a.part&&decide (f.signs[a.at_.toNat].who=a.who)) (by rw[<-hX];unfold Gy x9;rw[hs,h1];simp);clear fin hX;simp;refine⟨_,oI,?_⟩;cases cA:qw f a.at_ a.part
  .rw[cA] at ux;simp;obtain h|h|h|h|h|h|h|h|h|h:=kJ
   all_goals
        simp[h] at ux ⊢
        first
         |done
         |(subst ux
           simp[Sq,Sr,Ii,ZC])
  .rw[cA] at ux;simp[cD,h2];obtain h|h|h|h|h|h|h|h|h|h:=kJ
   all_goals
        simp[h] at ux ⊢
        first
         |done
         |(subst ux
           simp[Sq,Sr,Ii,ZC])
set_option maxRecDepth 4000 in
def av1 (r:Realm)(hr:Small r)(f:File)(hp:1<=f.bill.parts/\f.bill.parts<=4)(hl:f.signs.length<=100000)(uF:f.acts.length<=100000)(i:Nat)(h:i<f.acts.length):aq T 64 [aX r,aS f,.int i] (.int (jZ r f i)):=by
 refine zyw 133 aza ?_;have Q5:=hr.cities;have di:i64.wrap ((r.cities.length:Int)-1)=(r.cities.length:Int)-1:=bn (by omega);have y9:i64.wrap (f.bill.parts-1)=f.bill.parts-1:=bn (by omega);have hs:f.acts.getD i default=f.acts[i]:=by simp[h]
 generalize hX:jZ r f i=X;unfold jZ at hX;simp only[hs] at hX;simp[Xp,h,di,y9,bH];refine⟨_,bJ _ _ _,?_⟩;cases a1:wi f.acts[i].part 0 (f.bill.parts-1)
 .simpa [a1] using hX
 simp[a1] at hX ⊢;refine⟨_,bJ _ _ _,?_⟩;rw[jO] at hX;cases a2:wi f.acts[i].city 0 ((r.cities.length:Int)-1)
 .simpa [a2] using hX
 simp[a2] at hX ⊢;refine⟨_,bJ _ _ _,?_⟩;cases a3:wi f.acts[i].kind 0 9
 .simpa [a3] using hX
 simp[a3] at hX ⊢;refine⟨_,avY r hr f f.acts[i] hl (by simpa [wi] using a3),?_⟩;cases a4:pD r f f.acts[i]
 .simpa [a4] using hX
 simp[a4] at hX ⊢;have iS:=OS a4;unfold LZ at hX;simp[wi] at hX;generalize hA:f.acts[i]=a at*;by_cases k0:i=0
 .simp[k0] at hX ⊢;by_cases e1:a.at_=-1
  .simp[e1] at hX ⊢;by_cases d1:a.day<f.bill.day\/100000<a.day
   .rw[if_pos d1];rw[if_pos (by omega)] at hX;exact hX
   .rw[if_neg d1];rw[if_neg (by omega)] at hX;exact hX
  .obtain⟨h5,h6⟩:=iS e1;have h7:a.at_.toNat<f.signs.length:=by omega
   have h8:cl f a.at_=f.signs[a.at_.toNat]:=by simp[cl,h7]
   simp[e1,h8] at hX;simp[h5,h6,h7];by_cases d1:a.day<f.bill.day\/100000<a.day
   .rw[if_pos d1];rw[if_pos (by omega)] at hX;exact hX
   rw[if_neg d1];by_cases d2:a.day<f.signs[a.at_.toNat].day
   .rw[if_pos d2];rw[if_pos (by omega)] at hX;exact hX
   .rw[if_neg d2];rw[if_neg (by omega)] at hX;exact hX
 .have bq:i64.wrap ((i:Int)-1)=(i:Int)-1:=bn (by omega);have cn:((i:Int)-1).toNat=i-1:=by omega
  have fB:i-1<f.acts.length:=by omega
  have oC:0<i:=by omega
  simp[k0,fB] at hX;by_cases e1:a.at_=-1
  .simp[e1] at hX;simp[e1,bq,cn,fB,oC];by_cases d1:a.day<f.bill.day\/100000<a.day
   .rw[if_pos d1];rw[if_pos (by omega)] at hX;exact hX
   rw[if_neg d1];refine⟨by omega,?_⟩;by_cases d2:a.day<f.acts[i-1].day
   .rw[if_pos d2];rw[if_pos (by omega)] at hX;exact hX
   .rw[if_neg d2];rw[if_neg (by omega)] at hX;exact hX
  .obtain⟨h5,h6⟩:=iS e1;have h7:a.at_.toNat<f.signs.length:=by omega
   have h8:cl f a.at_=f.signs[a.at_.toNat]:=by simp[cl,h7]
   simp[e1,h8] at hX;simp[h5,h6,h7,bq,cn,fB,oC];by_cases d1:a.day<f.bill.day\/100000<a.day
   .rw[if_pos d1];rw[if_pos (by omega)] at hX;exact hX
   rw[if_neg d1];by_cases d2:a.day<f.signs[a.at_.toNat].day
   .rw[if_pos d2];rw[if_pos (by omega)] at hX;exact hX
   rw[if_neg d2];refine⟨by omega,?_⟩;by_cases d3:a.day<f.acts[i-1].day
   .rw[if_pos d3];rw[if_pos (by omega)] at hX;exact hX
   .rw[if_neg d3];rw[if_neg (by omega)] at hX;exact hX
def av3 (f:File)(hl:f.signs.length<=100000)(hlf:f.facts.length<=100000)(i:Nat)(h:i<f.facts.length):aq T 65 [aS f,.int i] (.int (mC f i)):=by
 refine zyw 135 azc ?_;have di:i64.wrap ((f.signs.length:Int)-1)=(f.signs.length:Int)-1:=bn (by omega);have hs:f.facts.getD i default=f.facts[i]:=by simp[h]
 generalize hX:mC f i=X;unfold mC at hX;simp only[hs] at hX;simp[Xr,h,di,bH];refine⟨_,bJ _ _ _,?_⟩;cases a1:wi f.facts[i].kind 0 4
 .simpa [a1] using hX
 simp[a1] at hX ⊢;refine⟨_,bJ _ _ _,?_⟩;rw[jO] at hX;cases a2:wi f.facts[i].at_ 0 ((f.signs.length:Int)-1)
 .simpa [a2] using hX
 simp[a2] at hX ⊢;refine⟨_,bJ _ _ _,?_⟩;cases a3:wi f.facts[i].n 0 1
 .simpa [a3] using hX
 simp[a3] at hX ⊢;by_cases k0:i=0
 .simp[k0] at hX ⊢;exact hX
 .have bq:i64.wrap ((i:Int)-1)=(i:Int)-1:=bn (by omega);have cn:((i:Int)-1).toNat=i-1:=by omega
  have fB:i-1<f.facts.length:=by omega
  have oC:0<i:=by omega
  simp[k0,fB] at hX;simp[bq,cn,fB,oC,bH];refine⟨by omega,?_⟩;by_cases e:tT f.facts[i-1] f.facts[i]
  .rw[if_pos e] at hX;unfold tT at e;rw[if_neg (by omega)];exact hX
  .rw[if_neg e] at hX;unfold tT at e;rw[if_pos (by omega)];exact hX
def iv (r:Realm)(f:File):Int:=
 if ¬((f.signs.length<=40/\f.alters.length<=4)/\f.acts.length<=100/\f.facts.length<=200) then 6
 else if mz r f.bill≠0 then mz r f.bill
 else if f.signs=[] then 14
 else if da f.signs.length (kr r f)≠0 then da f.signs.length (kr r f)
 else if da f.alters.length (gZ f)≠0 then da f.alters.length (gZ f)
 else if da f.acts.length (jZ r f)≠0 then da f.acts.length (jZ r f)
 else da f.facts.length (mC f)
def fR (e0:Int)(g:Nat->Int)(k:Nat):Int:=if k=0 then e0 else g (k-1)
structure AccOK (e0:Int) (g:Nat->Int) (n k:Nat):Prop where
 le:k<=n
 ini:e0≠0->k=0
 low:∀j,j+1<k->g j=0
def AccOK.start (e0:Int)(g:Nat->Int)(n:Nat):AccOK e0 g n 0:=⟨om _,λ_=>rfl,λj h=>by omega⟩
def AccOK.prev {e0:Int}{g:Nat->Int}{n k:Nat}(h:AccOK e0 g n k)(h0:fR e0 g k=0):∀j,j<k->g j=0:=by
 intro j hj;by_cases e:j+1=k
 .unfold fR at h0;rw[if_neg (by omega)] at h0;rw[<-h0];congr 1;omega
 .exact h.low j (by omega)
def AccOK.next {e0:Int}{g:Nat->Int}{n k:Nat}(h:AccOK e0 g n k)(h0:fR e0 g k=0)(hk:k<n):AccOK e0 g n (k+1):=by
 refine⟨hk,λhe=>?_,λj hj=>h.prev h0 j (by omega)⟩;have:=h.ini he;subst this;exact absurd h0 he
def AccOK.fin {e0:Int}{g:Nat->Int}{n k:Nat}(h:AccOK e0 g n k)(hk:k=n\/fR e0 g k≠0):fR e0 g k=if e0≠0 then e0 else da n g:=by
 by_cases he:e0=0
 .rw[if_neg (by simpa using he)];by_cases k0:k=0
  .subst k0;rcases hk with hk|hk
   .subst hk;simp[fR,he];rfl
   .exact absurd he hk
  .by_cases ha:fR e0 g k=0
   .obtain rfl:k=n:=hk.resolve_right λh=>h ha;rw[ha,EW (h.prev ha)]
   .have e:fR e0 g k=g (k-1):=by unfold fR;rw[if_neg k0]
    rw[e] at ha ⊢;have:=h.le;exact(EV (by omega) (λj hj=>h.low j (by omega)) ha).symm
 .rw[if_pos he];have:=h.ini he;subst this;rfl
set_option maxRecDepth 4000 in
def avZ (r:Realm)(hr:Small r)(f:File)(iQ:f.OK):aq T 34 [aX r,aS f] (.int (iv r f)):=by
 refine zyw 122 ay6 ?_;generalize hX:iv r f=X;unfold iv at hX;simp[Xm];by_cases hf:(f.signs.length<=40/\f.alters.length<=4)/\f.acts.length<=100/\f.facts.length<=200
 case neg=>
  rw[if_pos hf] at hX;rw[if_pos (by omega)];exact hX
 rw[if_neg (λh=>h hf)] at hX;rw[if_neg (by omega)];refine⟨_,avT r hr f.bill,?_⟩
 have dV:mz r f.bill=0->1<=f.bill.parts/\f.bill.parts<=4:=λh=>by
  unfold mz at h;split at h
  .omega
  split at h
  .cases h
  split at h
  .cases h
  split at h
  .cases h
  rename_i h4;simpa using h4
 generalize hB:mz r f.bill=B at*;generalize iT:(if B≠0 then B else if f.signs=[] then 14 else 0:Int)=e1
 have wB:e1=0->1<=f.bill.parts/\f.bill.parts<=4:=λh=>dV (by
  by_cases hb:B=0
  .exact hb
  .rw[if_pos hb] at iT;omega)
 generalize jJ:(if e1≠0 then e1 else da f.signs.length (kr r f))=e2;generalize yG:(if e2≠0 then e2 else da f.alters.length (gZ f))=e3;generalize he4:(if e3≠0 then e3 else da f.acts.length (jZ r f))=e4
 have RK:e3=0->1<=f.bill.parts/\f.bill.parts<=4:=λh=>wB (by
  by_cases h2:e2=0
  .by_cases h1:e1=0
   .exact h1
   .rw[if_pos h1] at jJ;omega
  .rw[if_pos h2] at yG;omega)
 have mF:(if e4≠0 then e4 else da f.facts.length (mC f))=X:=by
  rw[<-hX];subst he4 yG jJ iT;by_cases b0:B=0
  .by_cases b1:f.signs=[]
   .simp[b0,b1]
   .simp only[b0,b1,ne_eq,not_true,if_false];by_cases b2:da f.signs.length (kr r f)=0
    .by_cases b3:da f.alters.length (gZ f)=0<;>by_cases b4:da f.acts.length (jZ r f)=0<;>simp[b2,b3,b4]
    .simp only[b2,ne_eq,not_false_eq_true,if_true,if_false]
  .simp[b0]
 refine aN.forLoop (α:=Nat) (λk vr vo=>AccOK e1 (kr r f) f.signs.length k/\vr=[.int (fR e1 (kr r f) k),.int k]/\vo=[]) (λk=>f.signs.length-k) 0 ?_ ?_
 .refine⟨.start ..,?_,by simp⟩;simp[fR,<-iT];by_cases b0:B=0<;>by_cases b1:f.signs=[]<;>simp[b0,b1]
 rintro k vr vo ⟨hk,rfl,rfl⟩;by_cases hc:k<f.signs.length/\fR e1 (kr r f) k=0
 .have hw:=aV hc.1 (by omega);have oH:=hk.next hc.2 hc.1
  have e1z:e1=0:=sk λhe=>by
   have:=hk.ini he;subst this;exact he hc.2
  simp[ahE,Ng,hc,hw];refine⟨_,av4 r hr f (wB e1z) k hc.1 (by omega) (hk.prev hc.2) (iQ.2.1.2 _ (cG hc.1)).2.2.2.2.2.2.2.2,k+1,by omega,oH,?_⟩;simp[fR]
 have hE:=hk.fin (by
  have:=hk.le;by_cases h1:k<f.signs.length
  .exact .inr λh=>hc ⟨h1,h⟩
  .exact .inl (by omega))
 rw[jJ] at hE;simp[ahE,Ng,hE] at hc ⊢;rw[if_neg (by simpa using hc)];clear hc hE hk;refine aN.forLoop (α:=Nat) (λk vr vo=>AccOK e2 (gZ f) f.alters.length k/\vr=[.int (fR e2 (gZ f) k),.int k]/\vo=[]) (λk=>f.alters.length-k) 0 ?_ ?_
 .exact⟨.start ..,by simp[fR],by simp⟩
 rintro k2 vr vo ⟨hk,rfl,rfl⟩;by_cases hc:k2<f.alters.length/\fR e2 (gZ f) k2=0
 .have hw:=aV hc.1 (by omega);have oH:=hk.next hc.2 hc.1;have FO:=hk.prev hc.2;have oA:fR e2 (gZ f) (k2+1)=gZ f k2:=by simp[fR]
  have hs:f.alters.getD k2 default=f.alters[k2]:=by simp[hc.1]
  generalize hV:gZ f k2=zzv at oA;unfold gZ at hV;simp only[hs] at hV;simp[ahF,Nh,hc,hw];by_cases k0:k2=0
  .subst k0;have wj:=hc.1;simp[wj] at hV ⊢;refine⟨_,bJ _ _ _,?_⟩;cases a1:wi f.alters[0].at_ 1 f.signs.length
   .simp[a1] at hV ⊢;exact⟨1,by omega,oH,by rw[oA,<-hV],by simp⟩
   simp[a1] at hV ⊢;refine⟨_,bJ _ _ _,?_⟩;cases a2:wi f.alters[0].sum 1 1099511627776
   .simp[a2] at hV ⊢;exact⟨1,by omega,oH,by rw[oA,<-hV],by simp⟩
   simp[a2,hc.2] at hV ⊢;exact⟨1,by omega,oH,by rw[oA,<-hV],by simp⟩
  .have bq:i64.wrap ((k2:Int)-1)=(k2:Int)-1:=bn (by omega);have cn:((k2:Int)-1).toNat=k2-1:=by omega
   have fB:k2-1<f.alters.length:=by omega
   have oC:0<k2:=by omega
   have Sg:i64.wrap (f.alters[k2-1].at_+1)=f.alters[k2-1].at_+1:=by
        have h1:=FO (k2-1) (by omega);have h2:=(iQ.2.2.1.2 _ (cG fB)).1;have h3:f.alters.getD (k2-1) default=f.alters[k2-1]:=by simp[fB]
        unfold gZ at h1;rw[h3] at h1;simp only at h1;generalize (if k2-1=0 then(0:Int) else(f.alters.getD (k2-1-1) default).at_)=L0 at h1;split at h1
        .cases h1
        .rename_i hh;simp[wi] at hh;unfold aQ at h2;exact bn (by omega)
   have wj:=hc.1;simp[k0,fB] at hV;simp[bq,cn,fB,oC,Sg,wj];refine⟨by omega,_,bJ _ _ _,?_⟩;cases a1:wi f.alters[k2].at_ (f.alters[k2-1].at_+1) f.signs.length
   .simp[a1] at hV ⊢;exact⟨k2+1,by omega,oH,by rw[oA,<-hV],by simp⟩
   simp[a1] at hV ⊢;refine⟨_,bJ _ _ _,?_⟩;cases a2:wi f.alters[k2].sum 1 1099511627776
   .simp[a2] at hV ⊢;exact⟨k2+1,by omega,oH,by rw[oA,<-hV],by simp⟩
   simp[a2,hc.2] at hV ⊢;exact⟨k2+1,by omega,oH,by rw[oA,<-hV],by simp⟩
 have hE:=hk.fin (by
  have:=hk.le;by_cases h1:k2<f.alters.length
  .exact .inr λh=>hc ⟨h1,h⟩
  .exact .inl (by omega))
 rw[yG] at hE;simp[ahF,Nh,hE] at hc ⊢;rw[if_neg (by simpa using hc)];clear hc hE hk;refine aN.forLoop (α:=Nat) (λk vr vo=>AccOK e3 (jZ r f) f.acts.length k/\vr=[.int (fR e3 (jZ r f) k),.int k]/\vo=[]) (λk=>f.acts.length-k) 0 ?_ ?_
 .exact⟨.start ..,by simp[fR],by simp⟩
 rintro k3 vr vo ⟨hk,rfl,rfl⟩;by_cases hc:k3<f.acts.length/\fR e3 (jZ r f) k3=0
 .have hw:=aV hc.1 (by omega);have oH:=hk.next hc.2 hc.1
  have ez:e3=0:=sk λhe=>by
   have:=hk.ini he;subst this;exact he hc.2
  simp[ahG,Ni,hc,hw];refine⟨_,av1 r hr f (RK ez) (by omega) (by omega) k3 hc.1,k3+1,by omega,oH,?_⟩;simp[fR]
 have hE:=hk.fin (by
  have:=hk.le;by_cases h1:k3<f.acts.length
  .exact .inr λh=>hc ⟨h1,h⟩
  .exact .inl (by omega))
 rw[he4] at hE;simp[ahG,Ni,hE] at hc ⊢;rw[if_neg (by simpa using hc)];clear hc hE hk;refine aN.forLoop (α:=Nat) (λk vr vo=>AccOK e4 (mC f) f.facts.length k/\vr=[.int (fR e4 (mC f) k),.int k]/\vo=[]) (λk=>f.facts.length-k) 0 ?_ ?_
 .exact⟨.start ..,by simp[fR],by simp⟩
 rintro k4 vr vo ⟨hk,rfl,rfl⟩;by_cases hc:k4<f.facts.length/\fR e4 (mC f) k4=0
 .have hw:=aV hc.1 (by omega);have oH:=hk.next hc.2 hc.1;simp[ahH,Nj,hc,hw];refine⟨_,av3 f (by omega) (by omega) k4 hc.1,k4+1,by omega,oH,?_⟩;simp[fR]
 have hE:=hk.fin (by
  have:=hk.le;by_cases h1:k4<f.facts.length
  .exact .inr λh=>hc ⟨h1,h⟩
  .exact .inl (by omega))
 rw[mF] at hE;simp[ahH,Nj,hE] at hc ⊢;intro a b;exact absurd b (hc a)
def aBm (r:Realm)(hs:Small r)(b:Bill):aq T 55 [aX r,fK b] (.int (mz r b)):=by
 refine .of_tree rfl aad aiX ?_;generalize hX:mz r b=X;unfold mz at hX;simp[Ok];refine⟨_,ah2 r hs,?_⟩;by_cases h0:eO r=0
 case neg=>rw[if_pos h0] at hX;subst hX;simp[h0]
 rw[if_neg (by simpa using h0)] at hX;simp[h0];refine⟨_,gj _ _,?_⟩;cases h1:aw b.drawer r.firms.length
 .simpa [h1,nk] using hX
 simp;refine⟨_,gj _ _,?_⟩;cases h2:aw b.drawee r.firms.length
 .simpa [h2,nk] using hX
 by_cases h3:jQ b.payee r.firms.length=true
 case neg=>
  have eI:¬b.payee=-1/\aw b.payee r.firms.length=false:=by simpa [jQ] using h3
  have K1:1=X:=by simpa [h3,nk] using hX
  simp[eI.1];refine⟨_,gj _ _,?_⟩;simp[eI.2,K1]
 by_cases h4:jQ b.need r.firms.length=true
 case neg=>
  have nD:¬b.need=-1/\aw b.need r.firms.length=false:=by simpa [jQ] using h4
  have K1:1=X:=by simpa [h4,nk] using hX
  by_cases hp:b.payee=-1
  .simp[hp,nD.1];refine⟨_,gj _ _,?_⟩;simp[nD.2,K1]
  .have eI:aw b.payee r.firms.length=true:=by simpa [jQ,hp] using h3
   simp[hp];refine⟨_,gj _ _,?_⟩;simp[eI,nD.1];refine⟨_,gj _ _,?_⟩;simp[nD.2,K1]
 have uO:nk r b=true:=by simp[nk,h1,h2,h3,h4]
 have hp:b.payee=-1\/(¬b.payee=-1/\aw b.payee r.firms.length=true):=by
  by_cases e:b.payee=-1
  .exact .inl e
  .exact .inr ⟨e,by simpa [jQ,e] using h3⟩
 have hn:b.need=-1\/(¬b.need=-1/\aw b.need r.firms.length=true):=by
  by_cases e:b.need=-1
  .exact .inl e
  .exact .inr ⟨e,by simpa [jQ,e] using h4⟩
 have R6:=aj2 r b.city b.pay (by have:=hs.us;omega);have bad:¬mq r b=true->1=X:=λh=>by rw[if_pos (Or.inr (by simpa using h))] at hX;exact hX
 rcases hp with hp|⟨hp,fb⟩<;>rcases hn with hn|⟨hn,nF⟩
 case' inl.inl=>simp[hp,hn]
 case' inl.inr=>simp[hp,hn];refine⟨_,gj _ _,?_⟩;simp[nF]
 case' inr.inl=>simp[hp,hn];refine⟨_,gj _ _,?_⟩;simp[fb]
 case' inr.inr=>simp[hp,hn];refine⟨_,gj _ _,?_⟩;simp[fb];refine⟨_,gj _ _,?_⟩;simp[nF]
 all_goals
  refine⟨_,gj _ _,?_⟩;cases h5:aw b.currency r.currencies.length
  .simp[bad (by simp[mq,h5])]
  simp;refine⟨_,gj _ _,?_⟩;cases h6:aw b.city r.cities.length
  .simp[bad (by simp[mq,h6])]
  simp;refine⟨_,gj _ _,?_⟩;cases h7:aw b.pay r.cities.length
  .simp[bad (by simp[mq,h7])]
  have za:mq r b=true:=by simp[mq,h5,h6,h7]
  rw[if_neg (by simp[uO,za])] at hX;simp;by_cases h8:m7 b
  case neg=>
   have uw:((((b.sum<1\/1099511627776<b.sum)\/b.day<0)\/100000<b.day)\/b.rate<0)\/1000<b.rate:=by unfold m7 at h8;omega
   rw[if_pos h8] at hX;rw[if_pos uw,hX]
  have uw:¬(((((b.sum<1\/1099511627776<b.sum)\/b.day<0)\/100000<b.day)\/b.rate<0)\/1000<b.rate):=by unfold m7 at h8;omega
  rw[if_neg (by simpa using h8)] at hX;rw[if_neg uw];by_cases h9:1<=b.parts/\b.parts<=4
  case neg=>
   rw[if_pos h9] at hX;rw[if_pos (by omega),hX]
  rw[if_neg (by simpa using h9)] at hX;rw[if_neg (by omega)];have ya:¬ur b->2=X:=λh=>by rw[if_pos h] at hX;exact hX
  by_cases g1:0<=b.flags/\b.flags<=7
  case neg=>
   have dp:b.flags<0\/7<b.flags:=by omega
   simp[g1,dp,ya (λh=>g1 h.1.1)]
  have dp:¬(b.flags<0\/7<b.flags):=by omega
  by_cases g2:cC .and .i64 b.flags 4=0\/¬b.payee=-1
  case neg=>
   have kc:¬cC .and .i64 b.flags 4=0/\b.payee=-1:=by simpa using g2
   first
        |exact absurd kc.2 hp
        |simp[g1,dp,kc,ya (λh=>g2 h.1.2)]
  have g3:(b.payee=-1->cC .and .i64 b.flags 4=0):=λe=>g2.resolve_right (λh=>h e);simp[g1,dp,hp,g3];refine⟨_,ajD b,?_⟩;cases gL:vA b
  .simp[ya (λh=>by have:=h.2;rw[gL] at this;cases this)]
  rw[if_neg (not_not_intro ⟨⟨g1,g2⟩,gL⟩)] at hX;simp;by_cases e:b.tenor.kind=4
  .simp[e] at hX ⊢;refine⟨_,R6,?_⟩;simp[hX]
  .simp[e] at hX ⊢;exact hX
def avk (r:Realm)(hs:Small r)(f:File)(iQ:f.OK):aq T 24 [aX r,aS f] (.int (iv r f)):=by
 refine .of_tree rfl Z9 aiT ?_;generalize hX:iv r f=X;unfold iv at hX;simp[N6];by_cases hf:(f.signs.length<=40/\f.alters.length<=4)/\f.acts.length<=100/\f.facts.length<=200
 case neg=>
  rw[if_pos hf] at hX;rw[if_pos (by omega),hX]
 rw[if_neg (not_not_intro hf)] at hX;rw[if_neg (by omega)];refine⟨_,aBm r hs f.bill,?_⟩;by_cases e0:mz r f.bill=0
 case neg=>
  rw[if_pos e0] at hX;subst hX;simp[e0]
 have dV:1<=f.bill.parts/\f.bill.parts<=4:=by
  unfold mz at e0
  repeat' split at e0
  all_goals first|contradiction|omega
 rw[if_neg (by simpa using e0)] at hX;simp[e0];by_cases aF:f.signs=[]
 .simpa [aF] using hX
 rw[if_neg aF] at hX;simp[aF];refine nT f.signs.length (kr r f) (λk=>[.int 0,.int k]) (λ_=>[]) ?_ (λk hk ho=>?_) (λk hk ho hb=>?_) (λhj=>?_)
 .simp
 .have hw:=aV hk (by omega);simp[Dh,xk,hk,hw];refine⟨_,Mx r hs f dV k hk (by omega),?_⟩;simp[ho]
 .rw[hb,if_pos ho] at hX;subst hX;simp[Dh,xk,hk];exact⟨Mx r hs f dV k hk (by omega),ho⟩
 rw[hj,if_neg (by simp)] at hX;simp[Dh,xk];have gR:∀k,k<f.alters.length->(∀j,j<k->gZ f j=0)->i64.wrap ((if k=0 then 0 else(f.alters.getD (k-1) default).at_)+1)=(if k=0 then 0 else(f.alters.getD (k-1) default).at_)+1:=by
  intro k hk hj;refine bn ?_;by_cases k0:k=0
  .rw[if_pos k0];omega
  .rw[if_neg k0];have h1:=hj (k-1) (by omega);have bq:k-1<f.alters.length:=by omega
   have h2:=(iQ.2.2.1.2 _ (cG bq)).1;have h3:f.alters.getD (k-1) default=f.alters[k-1]:=by simp[bq]
   unfold gZ at h1;rw[h3] at h1 ⊢;simp only at h1;generalize (if k-1=0 then(0:Int) else(f.alters.getD (k-1-1) default).at_)=L0 at h1;split at h1
   .cases h1
   .rename_i hh;simp[wi] at hh;unfold aQ at h2;omega
 refine aN.scan f.alters.length (λk=>gZ f k=0) (λk=>[.int 0,.int (if k=0 then 0 else(f.alters.getD (k-1) default).at_),.int k]) (λ_=>[]) ?_ (λk hk mH ho=>?_) (λk hk mH ho=>?_) (λri=>?_)
 .simp
 .have hw:=aV hk (by omega);have hl:=gR k hk mH;generalize hL:(if k=0 then 0 else(f.alters.getD (k-1) default).at_)=L at*;have hs:f.alters.getD k default=f.alters[k]:=by simp[hk]
  unfold gZ at ho;simp only[hs,hL] at ho;simp[Di,xl,hk,hl];refine⟨_,eA _ _ _,?_⟩;cases a1:wi f.alters[k].at_ (L+1) f.signs.length
  .simp[a1] at ho
  simp[a1] at ho ⊢;refine⟨_,eA _ _ _,?_⟩;simp[ho,hw]
 .have hl:=gR k hk mH;have yJ:=EV hk mH ho;rw[yJ,if_pos ho] at hX;generalize hL:(if k=0 then 0 else(f.alters.getD (k-1) default).at_)=L at*;have hs:f.alters.getD k default=f.alters[k]:=by simp[hk]
  unfold gZ at ho hX;simp only[hs,hL] at ho hX;simp[Di,xl,hk,hl];refine⟨_,eA _ _ _,?_⟩;cases a1:wi f.alters[k].at_ (L+1) f.signs.length
  .simpa [a1] using hX
  simp[a1] at ho hX ⊢;refine⟨_,eA _ _ _,?_⟩;simp[ho] at hX ⊢;exact hX
 have ri:=EW ri;rw[ri,if_neg (by simp)] at hX;simp[Di,xl];refine⟨_,agp r hs f dV (by omega) (by omega),?_⟩;by_cases e3:da f.acts.length (jZ r f)=0
 case neg=>
  rw[if_pos e3] at hX;subst hX;simp[e3]
 rw[if_neg (by simpa using e3)] at hX;simp[e3];rw[<-hX];exact agq f (by omega) (by omega)
def akl (o:Order)(q:Int)(cs:List Cell)(hq:(eE q).1=0)(hk:(lS o q cs).1.known=true):0<=(lS o q cs).1.n/\(lS o q cs).1.n<=20000:=by
 unfold lS at hk ⊢;split at hk
 .cases hk
 .rename_i h;rw[if_neg h];simp only at hk ⊢;split at hk
  .rename_i h2;rw[if_pos h2];simp only;omega
  .rename_i h2;exact absurd ⟨hq,hk⟩ h2
def akv (r:Realm)(ak q:Int)(c:Case)(hq:(eE q).1=0)(hk:(lT r ak q c).cell.known=true):0<=(lT r ak q c).cell.n/\(lT r ak q c).cell.n<=20000:=by
 unfold lT at hk ⊢;split at hk
 .rename_i h;exfalso;have:(hH r ak q c).1.cell=cX:=by
   unfold hH
   repeat' split
   all_goals rfl
  rw[this] at hk;cases hk
 .rename_i h;rw[if_neg h];exact akl _ _ _ hq hk
def aem (r:Realm)(ak q:Int)(c:Case)(hq:(eE q).1=0):tg (lT r ak q c)=-1\/(0<=tg (lT r ak q c)/\tg (lT r ak q c)<=20000):=by
 unfold tg;split
 .exact .inl rfl
 .rename_i h;refine .inr (akv r ak q c hq ?_);cases e:(lT r ak q c).cell.known
  .exact absurd (.inr e) h
  .rfl
def lj:List Objection->Int->Bool
 |[],last=>decide (last<=100000)
 |c::l,last=> !decide (c.day<last)&&lj l c.day
def po (last day:Int)(o:Objection):Bool:=o.shows&&decide (o.day<=last)&&decide (o.day<=day)
def NX (right:Bool)(aBp notice term:Int)(title:Bool)(cs:List Objection)(day:Int):Int:=
 if right=false\/day<aBp then 0 else if term=-1\/title=false then 0 else if cs.any (po (notice+term) day)=true then 0 else if notice+term<day then 1 else 2
@[simp] def aEG (f:Nat)(l:List D):(D.clo f l).cells=[D.clo f l]:=zyz
def ajO (l:List Objection)(f:Nat)(caps:List D)(g:Nat->Bool)(hg:∀k (hk:k<l.length),aq T f (qV l[k]::caps) (.bool (g k)))(hl:l.length<=4294967296):
 aq T 60 [wZ l,.clo f caps] (.int (l9 l.length g)):=by
 refine zyw 47 aAv ?_;simp[Yw];refine .scan l.length (λk=>g k=false) (λk=>[.int 0,.int k]) (λ_=>[]) ?_ (λk hk hj ho=>?_) (λk hk hj ho=>?_) (λhj=>?_)
 .simp
 .have hw:=aV hk hl;simp[VL,HH,hk,hw];refine⟨_,_,⟨rfl,rfl⟩,_,hg k hk,?_⟩;simp[ho,hw]
 .have he:=Gd hk (by simpa using ho) hj;simp[VL,HH,hk,he];refine⟨_,_,⟨rfl,rfl⟩,_,hg k hk,?_⟩;simp[ho]
 .have he:=Gc hj;simp[VL,HH,he]
def ajK (l:List Objection)(f:Nat)(caps:List D)(g:Nat->Bool)(hg:∀k (hk:k<l.length),aq T f (qV l[k]::caps) (.bool (g k)))(hl:l.length<=4294967296):
 aq T 31 [wZ l,.clo f caps] (.bool ((List.range l.length).any g)):=by
 refine zyw 46 aAq ?_;simp[Yr];refine⟨_,ajO l f caps g hg hl,?_⟩;have:=Ss l.length g;simp[<-this]
def adP (r:Realm)(n:Int):aq T 26 [aX r,.int n] (.bool (aw n r.firms.length)):=by
 refine zyw 41 ayv ?_;simp[WM,aw];by_cases h:0<=n<;>simp[h]
def ou (f:File)(x:Lost):Bool:= !decide (x.day<f.bill.day)&& !decide (x.notice<x.day)&&lj x.claims x.notice
def ar8 (f:File)(x:Lost)(hl:x.claims.length<=1000):aq T 33 [aS f,eQ x] (.bool (ou f x)):=by
 refine zyw 49 ayu ?_;unfold ou;simp[WL];by_cases h1:x.day<f.bill.day
 .simp[h1];omega
 by_cases h2:x.notice<x.day
 .simp[h1,h2];omega
 rw[if_neg (by omega)];have hd:(!decide (x.day<f.bill.day)&& !decide (x.notice<x.day)&&lj x.claims x.notice)=lj x.claims x.notice:=by simp[h1,h2]
 rw[hd];refine aN.forLoop (α:=Nat×Int) (λs vr vo=>s.1<=x.claims.length/\vr=[.bool false,.int s.2,.int s.1]/\vo=[]/\lj x.claims x.notice=lj (x.claims.drop s.1) s.2) (λs=>x.claims.length-s.1) (0,x.notice) ?_ ?_
 .simp
 .rintro⟨k,last⟩ vr vo ⟨hk,rfl,rfl,hD⟩;simp only at hk hD;by_cases ao:k<x.claims.length
  .have hw:=aV ao (by omega);rw[Ip ao] at hD;simp only[lj] at hD;simp[ahA,M9,ao,hw];by_cases hc:x.claims[k].day<last
   .rw[if_pos hc,hD];simp[hc]
   .rw[if_neg hc];refine⟨k+1,by omega,by omega,x.claims[k].day,⟨rfl,by simp⟩,?_⟩;rw[hD];simp[hc]
  .obtain rfl:k=x.claims.length:=by omega
   simp[ahA,M9];rw[hD];simp[lj]
def H5 (r:Realm)(x:Lost):Bool:=(List.range x.claims.length).any λk=> !aw (x.claims.getD k default).firm r.firms.length
def kR (r:Realm)(f:File)(x:Lost)(e:Int):Int:=
 if e≠0 then e else if aw x.part f.bill.parts=false then 15 else if aw x.by_ r.firms.length=false then 1 else if 20<x.claims.length then 6 else if H5 r x=true then 1 else if ou f x=false then 13 else 0
def SJ (r:Realm)(f:File)(x:Lost)(e:Int)(he:aq T 24 [aX r,aS f] (.int e))(hl:x.claims.length<=1000):aq T 8 [aX r,aS f,eQ x] (.int (kR r f x e)):=by
 refine zyw 4 ays ?_;simp[WC];refine⟨_,he,?_⟩;by_cases h0:e=0
 case neg=>simp[h0,kR]
 subst h0;simp;have c1:aq T 27 [.ref (eQ x),.ref (aS f)] (.bool (!aw x.part f.bill.parts)):=by
  refine zyw 42 ayn ?_;simp[WE,aw];by_cases h:x.part<0
  .simp[h];try omega
  .have h':0<=x.part:=by omega
   by_cases h2:x.part<f.bill.parts
   .simp[h,h',h2]
   .simp[h,h',h2];omega
 have c2:aq T 28 [.ref (aX r),.ref (eQ x)] (.bool (!aw x.by_ r.firms.length)):=by
  refine zyw 43 ayo ?_;simp[WG];exact⟨_,adP r _,rfl⟩
 have c3:aq T 29 [.ref (eQ x)] (.bool (decide (20<x.claims.length))):=by
  refine zyw 44 ayp ?_;simp[WH];omega
 have c4:aq T 30 [.ref (eQ x),.ref (.clo 25 [.ref (aX r)])] (.bool (H5 r x)):=by
  refine zyw 45 ayq ?_;simp[WI];refine ajK x.claims _ _ _ (λk hk=>?_) (by omega);refine zyw 40 aym ?_;simp[WD];refine⟨_,adP r _,?_⟩;simp[hk]
 have c5:aq T 32 [.ref (aS f),.ref (eQ x)] (.bool (!ou f x)):=by
  refine zyw 48 ayr ?_;simp[WJ];exact⟨_,ar8 f x hl,rfl⟩
 unfold kR;rw[if_neg (by decide)];refine .scan 5 (λk=>(if k=0 then(!aw x.part f.bill.parts) else if k=1 then(!aw x.by_ r.firms.length) else if k=2 then decide (20<x.claims.length) else if k=3 then H5 r x else !ou f x)=false) (λk=>[.int 0,.int k]) (λ_=>[]) ?_ (λk hk hj ho=>?_) (λk hk hj ho=>?_) (λhj=>?_)
 .simp
 .have hw:=aV hk (by omega);obtain rfl|rfl|rfl|rfl|rfl:k=0\/k=1\/k=2\/k=3\/k=4:=by omega
  all_goals
   simp at ho;simp[UX,GV,bH]
  .refine⟨_,_,⟨rfl,rfl⟩,_,c1,?_⟩;simp[ho]<;>try decide
  .refine⟨_,_,⟨rfl,rfl⟩,_,c2,?_⟩;simp[ho]<;>try decide
  .refine⟨_,_,⟨rfl,rfl⟩,_,c3,?_⟩;simp[show ¬20<x.claims.length by omega];decide
  .refine⟨_,_,⟨rfl,rfl⟩,_,c4,?_⟩;simp[ho]<;>try decide
  .refine⟨_,_,⟨rfl,rfl⟩,_,c5,?_⟩;simp[ho]<;>try decide
 .obtain rfl|rfl|rfl|rfl|rfl:k=0\/k=1\/k=2\/k=3\/k=4:=by omega
  all_goals
   have j0:=hj 0;have j1:=hj 1;have j2:=hj 2;have j3:=hj 3;simp at ho j0 j1 j2 j3;simp[UX,GV,bH]
  .refine⟨_,_,⟨rfl,rfl⟩,_,c1,?_⟩;simp[ho]
  .refine⟨_,_,⟨rfl,rfl⟩,_,c2,?_⟩;simp[ho,j0]
  .refine⟨_,_,⟨rfl,rfl⟩,_,c3,?_⟩;simp[ho,j0,j1]
  .refine⟨_,_,⟨rfl,rfl⟩,_,c4,?_⟩;simp[ho,j0,j1,show ¬20<x.claims.length by omega]
  .refine⟨_,_,⟨rfl,rfl⟩,_,c5,?_⟩;simp[ho,j0,j1,j3,show ¬20<x.claims.length by omega]
 .have j0:=hj 0 (by decide);have j1:=hj 1 (by decide);have j2:=hj 2 (by decide);have j3:=hj 3 (by decide);have j4:=hj 4 (by decide);simp at j0 j1 j2 j3 j4;simp[UX,GV,j0,j1,j3,j4,show ¬20<x.claims.length by omega]
def iI (r:Realm)(ak:Int)(f:File)(x:Lost):Int:=tg (As r ak 20 f x.day)
def nE (f:File)(x:Lost):Bool:=decide ((kG f x.part x.day).holder=x.by_)&&decide ((kG f x.part x.day).broken=-1)
def jx (r:Realm)(ak:Int)(f:File)(x:Lost)(e:Int)(day:Int):Int:=
 NX (decide (kR r f x e=0)) x.day x.notice (iI r ak f x) (nE f x) x.claims day
def SK (r:Realm)(hr:Right r)(ak:Int)(f:File)(hf:FewS f)(x:Lost)(hx:x.OK)(e:Int)(he:aq T 24 [aX r,aS f] (.int e))(hl:x.claims.length<=1000)(day:Int)
 (hq:(eE 20).1=0):aq T 10 [aX r,.int ak,aS f,eQ x,.int day] (.int (jx r ak f x e day)):=by
 refine zyw 3 ayt ?_;generalize hX:jx r ak f x e day=X;unfold jx NX at hX;simp[WK];refine⟨_,SJ r f x e he hl,?_⟩;by_cases h0:kR r f x e=0
 case neg=>rw[if_pos (by simp[h0])] at hX;subst hX;simp[h0]
 by_cases h1:x.day<=day
 case neg=>rw[if_pos (.inr (by omega))] at hX;subst hX;simp[show day<x.day by omega]
 rw[if_neg (by simp[h0];omega)] at hX;simp[h0,show ¬day<x.day by omega];refine⟨_,akr r hr ak 20 f x.day hf,_,aks _,_,ZE f x.part x.day hf.acts hf.signs,?_⟩;simp;split
 .rename_i h2;have ic:iI r ak f x=-1\/nE f x=false:=by
   rcases h2 with(h2|h2)|h2
   .exact .inl h2
   .exact .inr (by simp[nE,h2])
   .exact .inr (by simp[nE,h2])
  rw[if_pos ic] at hX;exact hX
 rename_i h2;simp only[not_or,Ik] at h2;have hh:nE f x=true:=by simp[nE,h2]
 have ic:¬(iI r ak f x=-1\/nE f x=false):=by simp only[not_or,hh];exact⟨h2.1.1,by decide⟩
 rw[if_neg ic] at hX;have hd:ou f x=true:=by
  unfold kR at h0;cases hd:ou f x
  .rw[hd] at h0
   repeat' split at h0
   all_goals first|(cases h0;done)|omega|(rename_i hq;exact absurd rfl hq)
  .rfl
 have hn:x.notice<=100000:=by
  simp only[ou,av] at hd;have h2:=hd.2;have key:∀(l:List Objection) (a:Int),lj l a=true->a<=100000:=by
   intro l
   induction l with
   |nil=>intro a h;simpa [lj] using h
   |cons c l ih=>intro a h;simp[lj] at h;have:=ih _ h.2;omega
  exact key _ _ h2
 have ht:0<=iI r ak f x/\iI r ak f x<=20000:=by
  rcases aem r ak 20 ⟨{f with facts:=[]},0,-1,-1,-1,x.day⟩ hq with h|h
  .exact absurd (.inl h) ic
  .exact h
 have hI:aQ x.notice:=hx.2.2.2.2.1;have hw:i64.wrap (x.notice+iI r ak f x)=x.notice+iI r ak f x:=bn (by unfold aQ at hI;omega);have LS:i64.wrap (x.notice+tg (As r ak 20 f x.day))=x.notice+iI r ak f x:=hw;refine .scan x.claims.length (λk=>po (x.notice+iI r ak f x) day (x.claims.getD k default)=false) (λk=>[.int 0,.int k]) (λ_=>[]) ?_ (λk hk hj ho=>?_) (λk hk hj ho=>?_) (λhj=>?_)
 .simp[LS]
 .have dP:=aV hk (by omega);simp[hk,po] at ho;simp[UY,GW,hk,dP,LS];intro a b c;have:=ho a b;omega
 .simp[hk,po] at ho;have yC:x.claims.any (po (x.notice+iI r ak f x) day)=true:=jA.2 ⟨x.claims[k],cG hk,by simp[po,ho]⟩;rw[if_pos yC] at hX;subst hX;simp[UY,GW,hk,LS,ho]
 .have yC:¬x.claims.any (po (x.notice+iI r ak f x) day)=true:=λh=>by
   obtain⟨o,ho,hs⟩:=jA.1 h;obtain⟨k,hk,rfl⟩:=jV ho;have:=hj k hk;simp only[aL,bL hk,jc] at this;rw[hs] at this;cases this
  rw[if_neg yC] at hX;simp[UY,GW,LS];by_cases hc:x.notice+iI r ak f x<day
  .rw[if_pos hc] at hX ⊢;exact hX
  .rw[if_neg hc] at hX ⊢;exact hX
def DD (r:Realm)(x:Lost)(day:Int)(i:Nat):Act:=⟨7,x.by_,-1,x.part,i,0,day,(r.firms.getD x.by_.toNat default).city,0⟩
def DC (g:File)(x:Lost)(held:List Int)(day:Int)(i:Nat):Bool:=
 ((decide ((g.signs.getD i default).kind=2)&&decide ((g.signs.getD i default).part=x.part))&& !hasB held (i:Int))&& !Aa g i day
def nW (r:Realm)(g:File)(x:Lost)(held:List Int)(day:Int)(k:Nat):List Act:=((List.range k).filter (DC g x held day)).map (DD r x day)
def axD (r:Realm)(g:File)(x:Lost)(held:List Int)(day:Int)(k:Nat):nW r g x held day (k+1)=nW r g x held day k++if DC g x held day k=true then[DD r x day k] else[]:=by
 unfold nW;rw[OH,DU,sr]
 congr 1
 cases h:DC g x held day k<;>simp[List.filter,h]
def Wc (r:Realm)(g:File)(x:Lost)(held:List Int)(day:Int)(k:Nat):(nW r g x held day k).length<=k:=by
 unfold nW;rw[fp];have:=tQ (DC g x held day) (List.range k);rw[DX] at this;exact this
def zF:File:=⟨⟨0,0,0,0,0,⟨0,0,0⟩,0,0,0,0,0,0,0⟩,[],[],[],[]⟩
def On (r:Realm)(f:File)(x:Lost)(day:Int):File:=
 {cm f day with acts:=(cm f day).acts++nW r (cm f day) x (kG f x.part x.day).signs day (cm f day).signs.length}
def kE (r:Realm)(ak:Int)(f:File)(x:Lost)(e day:Int):File×Int:=
 if 100000<day\/jx r ak f x e day≠1 then(zF,7) else if 100<(On r f x day).acts.length then(zF,6) else(On r f x day,0)
def aiD {r:Realm}{ak:Int}{f:File}{x:Lost}{e day:Int}(h:jx r ak f x e day=1):kR r f x e=0/\x.day<=day/\nE f x=true:=by
 unfold jx NX at h;split at h
 .cases h
 rename_i h1;split at h
 .cases h
 rename_i h2;simp at h1 h2;exact⟨h1.1,h1.2,h2.2⟩
def adO {r:Realm}{f:File}{x:Lost}{e:Int}(h:kR r f x e=0):0<=x.by_/\x.by_<r.firms.length:=by
 unfold kR at h;split at h
 .omega
 split at h
 .cases h
 split at h
 .cases h
 rename_i h1;simpa [aw] using h1
set_option maxRecDepth 10000 in
def adN (r:Realm)(hr:Right r)(eJ:r.firms.length<=100000)(ak:Int)(f:File)(hf:FewS f)(x:Lost)(hx:x.OK)(e:Int)(he:aq T 24 [aX r,aS f] (.int e))(hl:x.claims.length<=1000)(day:Int):
 aq T 6 [aX r,.int ak,aS f,eQ x,.int day] (.tup [aS (kE r ak f x e day).1,.int (kE r ak f x e day).2]):=by
 refine zyw 96 ayl ?_;generalize hX:kE r ak f x e day=X;unfold kE at hX;simp[WB];have cA:=SK r hr ak f hf x hx e he hl day rfl;by_cases h1:100000<day
 .rw[if_pos (.inl h1)] at hX;subst hX;simp[h1,show ¬day<=100000 by omega,bH];rfl
 simp[h1,show day<=100000 by omega];refine⟨_,cA,?_⟩;by_cases h2:jx r ak f x e day=1
 case neg=>
  rw[if_pos (.inr h2)] at hX;subst hX;simp[h2,bH];rfl
 rw[if_neg (by simp only[not_or,Ik];exact⟨h1,h2⟩)] at hX;obtain⟨hE,_,_⟩:=aiD h2;have kg:=adO hE;have Lb:x.by_.toNat<r.firms.length:=by omega
 simp[h2];have aFS:=hf.signs;refine⟨_,ZE f x.part x.day hf.acts hf.signs,_,ah4 f day (by have:=hf.signs;omega) (by have:=hf.acts;omega) (by have:=hf.alters;omega) (by have:=hf.facts;omega),?_⟩;have hg:On r f x day={cm f day with acts:=(cm f day).acts++nW r (cm f day) x (kG f x.part x.day).signs day (cm f day).signs.length}:=rfl;have yI:FewS (cm f day):=hf.at_ day;have Fi:(cm f day).bill=f.bill:=rfl;rw[hg] at hX;have bo:=(aaw f x.part x.day).1;generalize cm f day=g at*;generalize (kG f x.part x.day)=ch at*;have g1:=yI.signs;have g2:=yI.acts;refine aN.forRounds g.signs.length (λk=>[.none,.int k]) (λk=>[acts (nW r g x ch.signs day k)]) ?_ (λk hk=>?_) ?_
 .simp[nW,acts]
 .have hw:=aV hk (by omega);have hlen:=Wc r g x ch.signs day k;have dN:=axD r g x ch.signs day k;have hc:=DR ch.signs (k:Int) (by omega);have hs:=axZ g (k:Int) day (by omega);have yM:g.signs.getD k default=g.signs[k]:=by simp[hk]
  unfold DC at dN;rw[yM] at dN;simp[ahz,M8,hk,hw,bH];by_cases a1:g.signs[k].kind=2/\g.signs[k].part=x.part
  case neg=>
   have:(decide (g.signs[k].kind=2)&&decide (g.signs[k].part=x.part))=false:=by simpa using a1
   rw[this] at dN;simp at dN;simp[a1,dN]
  simp[a1] at dN ⊢;refine⟨_,hc,?_⟩;cases a2:hasB ch.signs (k:Int)
  case true=>
   simp[a2] at dN ⊢;rw[dN]
  simp[a2] at dN ⊢;refine⟨_,hs,?_⟩;cases a3:Aa g k day
  case true=>
   simp[a3] at dN ⊢;rw[dN]
  simp[a3] at dN ⊢;rw[dN];refine⟨⟨by omega,by omega⟩,by omega,?_⟩;simp[acts,DD,ib,zzx,Lb,-aGI]
 .simp[ahz,M8];have hlen:=Wc r g x ch.signs day g.signs.length;generalize nW r g x ch.signs day g.signs.length=ss at*;refine⟨by omega,?_⟩;by_cases h3:100<(g.acts++ss).length
  .rw[if_pos h3] at hX;subst hX;rw[if_pos (by rw[jW] at h3;omega)];simp[bH];rfl
  .rw[if_neg h3] at hX;subst hX;rw[if_neg (by rw[jW] at h3;omega)];simp[bH];simp[aS,acts,wd,-aGR]
def aiE (a b:Int):Prop:=a=2\/a=b
end Rm
