import Derived.Test.YtbagcfebdgiihaaGreatDoorAAM
noncomputable section
open Go.IntKind (i64)
set_option linter.all false
namespace Rm
open Go Go.Proofs Cx
def se (k:Int)(c:Cell):Prop:=(c.known=false->c=dj)/\(c.known=true->(k=1->c.n=0\/c.n=1)/\(k=0->-1099511627776<=c.n/\c.n<=1099511627776))
def yc (k:Int):se k dj:=⟨λ_=>rfl,λh=>by cases h⟩
def Ef (b:Bool):se 1 (fj b):=⟨λh=>(by cases b<;>cases h),λ_=>⟨λ_=>(by cases b<;>simp[fj]),λh=>by cases h⟩⟩
def TA (n:Int):-1099511627776<=mc n/\mc n<=1099511627776:=by unfold mc;omega
def aCd (cs:List Cell)(v:Int)(hv:0<=v/\v<=19):se (kA v).1 (kz cs v):=by
 unfold kz;split
 .exact yc _
 .split
  .rename_i h;rw[h];exact Ef _
  .rename_i h;refine⟨λh=>(by cases h),λ_=>⟨λh'=>absurd h' h,λ_=>TA _⟩⟩
def aAJ (a b:Int):-1099511627776<=ru a b/\ru a b<=1099511627776:=by
 unfold ru;have:=alD (a.natAbs*b.natAbs);split<;>omega
def apF (op a b:Int)(ha:-1099511627776<=a/\a<=1099511627776)(hb:-1099511627776<=b/\b<=1099511627776):-1099511627776<=uh op a b/\uh op a b<=1099511627776:=by
 unfold uh;split
 .exact TA _
 split
 .exact TA _
 split
 .exact aAJ _ _
 split<;>omega
def aiq {α β:Type}{f:α->β}{l:List α}{x:β}(h:l.map f=[x]):∃a,l=[a]/\f a=x:=by
 match l,h with
 |[a],h=>exact⟨a,rfl,by simpa using h⟩
def xB {α β:Type}{f:α->β}{l:List α}{x y:β}(h:l.map f=[x,y]):∃a b,l=[a,b]/\f a=x/\f b=y:=by
 match l,h with
 |[a,b],h=>exact⟨a,b,rfl,by simpa using h⟩
def Oh {α β:Type}{f:α->β}{l:List α}{x y z:β}(h:l.map f=[x,y,z]):∃a b c,l=[a,b,c]/\f a=x/\f b=y/\f c=z:=by
 match l,h with
 |[a,b,c],h=>exact⟨a,b,c,rfl,by simpa using h⟩
def TO:∀{L:Nat} {t:Tm} {k:Int} (cs:List Cell),bE L t=(k,0)->se k (bo L cs t)
 |0,t,k,cs,h=>yc _
 |L+1,t,k,cs,h=>by
  obtain⟨hn,hk⟩:=FH h;obtain⟨ha,_⟩:=MS h;have ih:∀a,a∈t.args->se (bE L a).1 (bo L cs a):=λa hm=>TO cs (show bE L a=((bE L a).1,0) by rw[<-ha a hm]);rw[zi];cases hn with
  |int h0 ha hn=>rw[if_pos (.inl h0)];exact⟨λh=>(by cases h),λ_=>⟨λh=>(by cases h),λ_=>hn⟩⟩
  |bool h0 ha hn=>rw[if_pos (.inr h0)];exact⟨λh=>(by cases h),λ_=>⟨λ_=>hn,λh=>by cases h⟩⟩
  |var h0 ha hn=>rw[if_neg (by omega),if_pos h0];exact aCd cs _ hn
  |not h0 hk=>
   rw[if_neg (by omega),if_neg (by omega),if_neg (by omega)];unfold eR;rw[if_pos h0];split
   .exact Ef _
   .exact yc _
  |log h0 hk=>
   rw[if_neg (by omega),if_neg (by omega),if_neg (by omega)];unfold eR;rw[if_neg (by omega)];split
   .exact Ef _
   rw[if_neg (by omega)];split
   .exact yc _
   exact Ef _
  |ite k h0 dq=>
   obtain⟨a,b,c,hl,e1,e2,e3⟩:=Oh dq;rw[hl] at ih ⊢;have r1:=ih a (by simp);have r2:=ih b (by simp);have r3:=ih c (by simp);rw[e1] at r1;rw[e2] at r2;rw[e3] at r3;rw[if_neg (by omega),if_neg (by omega)];simp only[j6,EI,bq,yM];split
   .rename_i hh;rcases(r1.2 hh.2).1 rfl with h1|h1<;>rw[h1]
    .exact r3
    .exact r2
   .unfold eR;rw[if_neg (by omega),if_neg (by omega),if_pos h0];simp only[bq,yM,JR];split
    .exact r2
    .exact yc _
  |less h0 hk=>
   rw[if_neg (by omega),if_neg (by omega),if_neg (by omega)];unfold eR;rw[if_neg (by omega),if_neg (by omega),if_neg (by omega)];split
   .exact yc _
   repeat' split
   all_goals exact Ef _
  |equal k h0 hk=>
   rw[if_neg (by omega),if_neg (by omega),if_neg (by omega)];unfold eR;rw[if_neg (by omega),if_neg (by omega),if_neg (by omega)];split
   .exact yc _
   repeat' split
   all_goals exact Ef _
  |num h0 dq=>
   obtain⟨a,b,hl,e1,e2⟩:=xB dq;rw[hl] at ih ⊢;have r1:=ih a (by simp);have r2:=ih b (by simp);rw[e1] at r1;rw[e2] at r2;rw[if_neg (by omega),if_neg (by omega),if_neg (by omega)];unfold eR;rw[if_neg (by omega),if_neg (by omega),if_neg (by omega)];simp only[j6,EI,bq,yM,JR];split
   .exact yc _
   rename_i GG;rw[if_neg (by omega),if_neg (by omega),if_neg (by omega)];have k1:(bo L cs a).known=true:=by
    cases e:(bo L cs a).known with
    |true=>rfl
    |false=>exact absurd (.inl e) GG
   have k2:(bo L cs b).known=true:=by
    cases e:(bo L cs b).known with
    |true=>rfl
    |false=>exact absurd (.inr e) GG
   exact⟨λh=>(by cases h),λ_=>⟨λh=>(by cases h),λ_=>apF _ _ _ ((r1.2 k1).2 rfl) ((r2.2 k2).2 rfl)⟩⟩
def aiP:∀(L:Nat) (cs:List Cell) (t:Tm),bz L t<=60->((eY L cs t).length:Int)<=bz L t
 |0,cs,t,h=>by simp[bz] at h
 |L+1,cs,t,h=>by
  have h1:=xD (L+1) t;obtain⟨hl,hp⟩:=Hs h;have hs:∀(l:List Tm) (n:Int),(∀a,a∈l->bz L a<=60)->dh (bz L) l n<=60->((l.map (eY L cs)).flatten.length:Int)+n<=dh (bz L) l n/\∀j,(((l.map (eY L cs)).getD j []).length:Int)+n<=dh (bz L) l n:=by
   intro l
   induction l with
   |nil=>intro n _ _;simp[dh]
   |cons a l ih=>
    intro n hp hm;have ha:=aiP L cs a (hp a (by simp));unfold dh at hm ⊢;split at hm
    .omega
    .rename_i h60;rw[if_neg h60];obtain⟨i1,i2⟩:=ih (n+bz L a) (λb hb=>hp b (by simp[hb])) hm;refine⟨by rw[j6,aeb,nL];omega,λj=>?_⟩;cases j with
     |zero=>simp;omega
     |succ j=>have:=i2 j;simp at this ⊢;omega
  obtain⟨uR,dN⟩:=hs t.args 1 hp h;rw[Oq];split
  .simp;omega
  split
  .split<;>simp<;>omega
  split
  .have:=dN (2-(bq (t.args.map (bo L cs)) 0).n).toNat;show _<=dh _ _ _;omega
  split
  .simp;omega
  .show _<=dh _ _ _;omega
@[simp] def aOG (x y:List Int):tG (ints x) 0 (ints y)=ints y:=zyw
@[simp] def aCQ (x y:Cell):tG (ct x) 0 (ct y)=ct y:=zyw
@[simp] def aNa (a b:List Int):D.list (a.map D.int++b.map D.int)=ints (a++b):=by simp[ints]
def lists (l:List (List Int)):D:=.list (l.map ints)
@[simp] def aNm (l:List (List Int)):(lists l).l=l.map ints:=zyw
def aoH (l:List (List Int))(hl:l.length<=1000)(hs:l.flatten.length<=1000000):ah T 228 [lists l] (ints l.flatten):=by
 refine zyt 55 aGp ?_;simp[acW];have hb:∀k,(l.take k).flatten.length<=l.flatten.length:=by
  intro k
  conv=>rhs;rw[<-RB k l]
  rw[List.flatten_append,nL];omega
 have bC:∀k (hk:k<l.length),(l.take (k+1)).flatten=(l.take k).flatten++l[k]:=λk hk=>by
  rw[gA hk,List.flatten_append];simp
 refine aG.forRounds l.length (λk=>[.int ((l.take k).flatten.length:Nat),.int k]) (λk=>[]) ?_ (λk hk=>?_) ?_
 .simp
 .have hw:=be hk (by omega);have h1:=bC k hk;have h2:=hb (k+1);rw[h1] at h2 ⊢;rw[nL] at h2 ⊢;generalize (l.take k).flatten.length=m at*;have uS:i64.wrap ((m:Int)+(l[k].length:Int))=(m:Int)+l[k].length:=ax (by omega);have zL:¬((m:Int)+l[k].length<0):=by omega
  simp[am6,Qi,hk,hw,uS,zL]
 .simp[am6,Qi];have agJ:ah T 254 [.list [],.int (l.flatten.length:Nat)] (.list []):=by
   refine .of_ext (g:=λ_ ds=>M8 ds) rfl ⟨0,λ_ _=>?_⟩;show(if(0:Int)<=(l.flatten.length:Nat)/\((l.flatten.length:Nat):Int)<=4294967296 then some (D.list []) else none)=some (D.list []);rw[if_pos (by omega)]
  rw[List.length_flatten] at agJ;refine⟨_,agJ,?_⟩;refine aG.forRounds l.length (λk=>[.none,.int k]) (λk=>[ints (l.take k).flatten]) ?_ (λk hk=>?_) ?_
  .simp[ints]
  .have hw:=be hk (by omega);have h1:=bC k hk;have h2:=hb (k+1);rw[h1] at h2 ⊢;rw[nL] at h2;generalize (l.take k).flatten=m at*;simp[am7,Qj,hk,hw];omega
  .simp[am7,Qj]
def aqs {op:Int}{l:List Cell}(h:(eR op l).known=false):eR op l=dj:=by
 have hy:∀b,(fj b).known=true:=λb=>by cases b<;>simp[fj]
 unfold eR at h ⊢;split<;>rename_i c1
 .rw[if_pos c1] at h;split<;>rename_i c2
  .rw[if_pos c2,hy] at h;cases h
  .rfl
 rw[if_neg c1] at h;split<;>rename_i c2
 .rw[if_pos c2,hy] at h;cases h
 rw[if_neg c2] at h;split<;>rename_i c3
 .rw[if_pos c3] at h;split<;>rename_i c4
  .rw[if_pos c4,c4.1] at h;cases h
  .rfl
 rw[if_neg c3] at h;split<;>rename_i c4
 .rfl
 rw[if_neg c4] at h
 repeat' split at h
 all_goals first|(rw[hy] at h;cases h)|cases h
def anK:∀(L:Nat) (cs:List Cell) (t:Tm) (k:Int),t.OK->bz L t<=60->bE L t=(k,0)->ah T 191 [TK cs,dx t] (.tup [ct (bo L cs t),ints (eY L cs t)])
 |0,cs,t,k,ht,hm,hc=>by simp[bz] at hm
 |L+1,cs,t,k,ht,hm,hc=>by
  refine zyt 48 aGN ?_;obtain⟨hl,hp⟩:=Hs hm;obtain⟨ha,_⟩:=MS hc;obtain⟨hn,au6⟩:=FH hc;have fK:∀a,a∈t.args->ah T 191 [TK cs,dx a] (.tup [ct (bo L cs a),ints (eY L cs a)]):=λa cP=>anK L cs a (bE L a).1 (ht.arg cP) (hp a cP) (by rw[<-ha a cP]);have p6:∀a,a∈t.args->se (bE L a).1 (bo L cs a):=λa cP=>TO cs (show bE L a=((bE L a).1,0) by rw[<-ha a cP]);have U5:∀a,a∈t.args->(eY L cs a).length<=60:=λa cP=>by have:=aiP L cs a (hp a cP);have:=hp a cP;omega
  by_cases dI:t.op=0\/t.op=1
  ·
   have e1:bo (L+1) cs t=⟨true,t.n⟩:=by rw[zi,if_pos dI]
   have e2:eY (L+1) cs t=[]:=by rw[Oq,if_pos dI]
   rw[e1,e2];rcases dI with h|h<;>simp[JG,h]<;>exact⟨rfl,rfl⟩
  have o0:t.op≠0:=λh=>dI (.inl h);have o1:t.op≠1:=λh=>dI (.inr h);by_cases o2:t.op=2
  .have hv:0<=t.n:=by
    cases hn with
    |var h0 ha hn=>exact hn.1
    |_=>omega
   have e1:bo (L+1) cs t=kz cs t.n:=by rw[zi,if_neg dI,if_pos o2]
   have e2:eY (L+1) cs t=if(kz cs t.n).known=true then[] else[t.n]:=by rw[Oq,if_neg dI,if_pos o2]
   rw[e1,e2];simp[JG,o2];refine⟨_,aDd cs t.n hv,?_⟩;cases e:(kz cs t.n).known
   .have:kz cs t.n=dj:=by
     unfold kz at e ⊢;split
     .rfl
     .rename_i h;rw[if_neg h] at e;split at e
      .cases hb:decide ((cellAt cs t.n).n≠0)<;>rw[hb] at e<;>cases e
      .cases e
    rw[this];simp[ints]
   .have h:kz cs t.n=⟨true,(kz cs t.n).n⟩:=by rw[<-e]
    rw[h];simp[ints]
    try rfl
  have hlen:1<=t.args.length/\(t.op≠3->2<=t.args.length)/\(t.op=6->3<=t.args.length):=by
   cases hn with
   |int h0 ha hn=>omega
   |bool h0 ha hn=>omega
   |var h0 ha hn=>omega
   |not h0 hk=>obtain⟨a,hl,_⟩:=aiq hk;rw[hl];simp;omega
   |log h0 hk=>obtain⟨a,b,hl,_⟩:=xB hk;rw[hl];simp;omega
   |ite k h0 hk=>obtain⟨a,b,c,hl,_⟩:=Oh hk;rw[hl];simp
   |less h0 hk=>obtain⟨a,b,hl,_⟩:=xB hk;rw[hl];simp;omega
   |equal k h0 hk=>obtain⟨a,b,hl,_⟩:=xB hk;rw[hl];simp;omega
   |num h0 hk=>obtain⟨a,b,hl,_⟩:=xB hk;rw[hl];simp;omega
  have hb9:9<=t.op->(-1099511627776<=(bq (t.args.map (bo L cs)) 0).n/\(bq (t.args.map (bo L cs)) 0).n<=1099511627776)/\(-1099511627776<=(bq (t.args.map (bo L cs)) 1).n/\(bq (t.args.map (bo L cs)) 1).n<=1099511627776):=by
   intro h9;have rb:∀c:Cell,se 0 c->-1099511627776<=c.n/\c.n<=1099511627776:=by
    intro c hr;cases e:c.known with
    |false=>rw[hr.1 e];simp
    |true=>exact(hr.2 e).2 rfl
   cases hn with
   |num h0 hk=>
    obtain⟨a,b,hl,ea,eb⟩:=xB hk;rw[hl] at p6 ⊢;have r1:=p6 a (by simp);have r2:=p6 b (by simp);rw[ea] at r1;rw[eb] at r2;exact⟨rb _ r1,rb _ r2⟩
   |log h0 hk=>omega
   |_=>omega
  have h6:t.op=6->(bq (t.args.map (bo L cs)) 0).known=true->(bq (t.args.map (bo L cs)) 0).n=0\/(bq (t.args.map (bo L cs)) 0).n=1:=by
   intro o6 GG;cases hn with
   |ite k h0 hk=>
    obtain⟨a,b,c,hl,ea,_⟩:=Oh hk;rw[hl] at p6 GG ⊢;have r1:=p6 a (by simp);rw[ea] at r1;exact(r1.2 GG).1 rfl
   |log h0 hk=>omega
   |num h0 hk=>omega
   |_=>omega
  have dB:t.op<3\/8<t.op->9<=t.op:=by
   cases hn with
   |log h0 hk=>omega
   |num h0 hk=>omega
   |_=>omega
  have e1:bo (L+1) cs t=if t.op=6/\(bq (t.args.map (bo L cs)) 0).known=true then bq (t.args.map (bo L cs)) (2-(bq (t.args.map (bo L cs)) 0).n).toNat else eR t.op (t.args.map (bo L cs)):=by
   rw[zi,if_neg dI,if_neg o2]
  have e2:eY (L+1) cs t=if t.op=6/\(bq (t.args.map (bo L cs)) 0).known=true then(t.args.map (eY L cs)).getD (2-(bq (t.args.map (bo L cs)) 0).n).toNat [] else if(eR t.op (t.args.map (bo L cs))).known=true then[] else(t.args.map (eY L cs)).flatten:=by
   rw[Oq,if_neg dI,if_neg o2]
  rw[e1,e2];simp[JG,o0,o1,o2];refine⟨by omega,?_⟩;refine aG.forRounds t.args.length (λk=>[.int k]) (λk=>[cells ((t.args.map (bo L cs)).take k++List.replicate (t.args.length-k) dj),lists ((t.args.map (eY L cs)).take k++List.replicate (t.args.length-k) [])]) ?_ (λk hk=>?_) ?_
  .simp[cells,lists,ints]
  .have hw:=be hk (by omega);have cY:=bR hk;have hr:=fK _ cY;have s1:=ZV (t.args.map (bo L cs)) dj (n:=t.args.length) (by simp) hk;have s2:=ZV (t.args.map (eY L cs)) [] (n:=t.args.length) (by simp) hk;rw[<-s1,<-s2];have l1:((t.args.map (bo L cs)).take k++List.replicate (t.args.length-k) dj).length=t.args.length:=by simp;omega
   have l2:((t.args.map (eY L cs)).take k++List.replicate (t.args.length-k) []).length=t.args.length:=by simp;omega
   have g1:(t.args.map (bo L cs))[k]'(by simpa using hk)=bo L cs t.args[k]:=by simp
   have g2:(t.args.map (eY L cs))[k]'(by simpa using hk)=eY L cs t.args[k]:=by simp
   rw[g1,g2];generalize (t.args.map (bo L cs)).take k++List.replicate (t.args.length-k) dj=A at*;generalize (t.args.map (eY L cs)).take k++List.replicate (t.args.length-k) []=B at*;generalize bo L cs t.args[k]=c at*;generalize eY L cs t.args[k]=d at*;simp[ZI,Ji,hk];refine⟨_,hr,?_⟩;simp[hw,hk,l1,l2,cells,lists]
  .have hA:(t.args.map (bo L cs)).take t.args.length++List.replicate (t.args.length-t.args.length) dj=t.args.map (bo L cs):=by rw[RG,List.replicate_zero,tU,EK (by simp)]
   have hB:(t.args.map (eY L cs)).take t.args.length++List.replicate (t.args.length-t.args.length) []=t.args.map (eY L cs):=by rw[RG,List.replicate_zero,tU,EK (by simp)]
   have lA:(t.args.map (bo L cs)).length=t.args.length:=by simp
   have lB:(t.args.map (eY L cs)).length=t.args.length:=by simp
   have C3:∀l:List Tm,(∀a,a∈l->a∈t.args)->((l.map (eY L cs)).flatten.length<=l.length*60):=by
    intro l
    induction l with
    |nil=>intro _;simp
    |cons a l ih=>
     intro h;have h1:=U5 a (h a (by simp));have h2:=ih (λb hb=>h b (by simp[hb]));rw[j6,aeb,nL,nM];omega
   have C3:=C3 t.args (λa h=>h);have hBg:∀m:Nat,(Option.map (eY L cs) t.args[m]?).getD []=(t.args.map (eY L cs)).getD m []:=λm=>by simp[bn]
   rw[hA,hB];generalize t.args.map (bo L cs)=A at*;generalize t.args.map (eY L cs)=B at*;have g0:0<A.length:=by omega
   have zn:A[0]=bq A 0:=by simp[bq,g0]
   by_cases Nj:t.op=6/\(bq A 0).known=true
   .obtain⟨o6,kn⟩:=Nj;have hv:=h6 o6 kn;have hw:i64.wrap (2-(bq A 0).n)=2-(bq A 0).n:=ax (by omega);have h3:3<=t.args.length:=hlen.2.2 o6;rw[if_pos ⟨o6,kn⟩,if_pos ⟨o6,kn⟩];obtain⟨m,cP⟩:∃m:Nat,m=(2-(bq A 0).n).toNat:=⟨_,rfl⟩
    have GH:m<A.length:=by omega
    have UX:m<B.length:=by omega
    simp[ZI,Ji,o6,kn,g0,zn,hw,<-cP,GH,UX,cells,lists];refine⟨by omega,by omega,by simp[bq,GH],?_⟩;rw[hBg,bn,cd UX];rfl
   .rw[if_neg Nj,if_neg Nj];have auu:=aC9 t.op A (by omega) (by omega) (by omega) hb9 dB;have auv:=aoH B (by omega) (by omega);simp[ZI,Ji,g0,zn];rw[if_neg Nj];refine⟨_,auu,?_⟩;cases e:(eR t.op A).known
    .have eU:eR t.op A=dj:=aqs e;rw[eU];simp;exact auv
    .have h:eR t.op A=⟨true,(eR t.op A).n⟩:=by rw[<-e]
     rw[h];simp[ints]
     try rfl
def my (n:Nat)(g:Nat->Bool):Int:=if(List.range n).findIdx g<n then((List.range n).findIdx g:Nat) else-1
def Af (n:Nat)(g:Nat->Bool):(my n g=-1/\∀k,k<n->g k=false)\/∃k:Nat,k<n/\my n g=k/\g k=true/\∀i,i<k->g i=false:=by
 unfold my;split
 .rename_i h;refine .inr ⟨_,h,rfl,?_,λi hi=>?_⟩
  .have:=List.findIdx_getElem (p:=g) (xs:=List.range n) (w:=by simpa using h);simpa using this
  .have:=List.not_of_lt_findIdx (p:=g) (xs:=List.range n) hi;simpa using this
 .rename_i h;refine .inl ⟨rfl,λk hk=>?_⟩;have:=List.not_of_lt_findIdx (p:=g) (xs:=List.range n) (i:=k) (by omega);simpa using this
def N6 {n:Nat}{g:Nat->Bool}(h:∀k,k<n->g k=false):my n g=-1:=by
 rcases Af n g with⟨h1,_⟩|⟨k,hk,_,h2,_⟩
 .exact h1
 .rw[h k hk] at h2;cases h2
def N7 {n k:Nat}{g:Nat->Bool}(hk:k<n)(h:g k=true)(hj:∀i,i<k->g i=false):my n g=k:=by
 rcases Af n g with⟨_,h1⟩|⟨m,hm,h1,h2,h3⟩
 .rw[h1 k hk] at h;cases h
 .rcases Nat.lt_trichotomy m k with h4|h4|h4
  .rw[hj m h4] at h2;cases h2
  .rw[h1,h4]
  .rw[h3 k h4] at h;cases h
def ahQ (n:Nat)(g:Nat->Bool):decide (0<=my n g)=(List.range n).any g:=by
 rcases Af n g with⟨h1,h2⟩|⟨m,hm,h1,h2,h3⟩
 .rw[h1]
  symm
  simp;exact h2
 .rw[h1];simp;exact⟨m,hm,h2⟩
def aoQ (l:List Rule)(f:Nat)(caps:List D)(g:Nat->Bool)(hg:∀k (hk:k<l.length),ah T f (uy l[k]::caps) (.bool (g k)))(hl:l.length<=4294967296):
 ah T 188 [rules l,.clo f caps] (.int (my l.length g)):=by
 refine zyt 39 aGv ?_;simp[ac2];refine .scan l.length (λk=>g k=false) (λk=>[.int 0,.int k]) (λ_=>[]) ?_ (λk hk hj ho=>?_) (λk hk hj ho=>?_) (λhj=>?_)
 .simp
 .have hw:=be hk hl;simp[ZC,Jd,hk,hw];refine⟨_,_,⟨rfl,rfl⟩,_,hg k hk,?_⟩;simp[ho,hw]
 .have he:=N7 hk (by simpa using ho) hj;simp[ZC,Jd,hk,he];refine⟨_,_,⟨rfl,rfl⟩,_,hg k hk,?_⟩;simp[ho]
 .have he:=N6 hj;simp[ZC,Jd,he]
def aoR (l:List Int)(f:Nat)(caps:List D)(g:Nat->Bool)(hg:∀k (hk:k<l.length),ah T f (.int l[k]::caps) (.bool (g k)))(hl:l.length<=4294967296):
 ah T 247 [ints l,.clo f caps] (.int (my l.length g)):=by
 refine zyt 34 aGw ?_;simp[ac3];refine .scan l.length (λk=>g k=false) (λk=>[.int 0,.int k]) (λ_=>[]) ?_ (λk hk hj ho=>?_) (λk hk hj ho=>?_) (λhj=>?_)
 .simp
 .have hw:=be hk hl;simp[ZD,Je,hk,hw,ints];refine⟨_,_,⟨rfl,rfl⟩,_,hg k hk,?_⟩;simp[ho,hw]
 .have he:=N7 hk (by simpa using ho) hj;simp[ZD,Je,hk,he,ints];refine⟨_,_,⟨rfl,rfl⟩,_,hg k hk,?_⟩;simp[ho]
 .have he:=N6 hj;simp[ZD,Je,he,ints]
def aoP (l:List Alter)(f:Nat)(caps:List D)(g:Nat->Bool)(hg:∀k (hk:k<l.length),ah T f (qP l[k]::caps) (.bool (g k)))(hl:l.length<=4294967296):
 ah T 246 [alters l,.clo f caps] (.int (my l.length g)):=by
 refine zyt 22 aGu ?_;simp[ac1];refine .scan l.length (λk=>g k=false) (λk=>[.int 0,.int k]) (λ_=>[]) ?_ (λk hk hj ho=>?_) (λk hk hj ho=>?_) (λhj=>?_)
 .simp
 .have hw:=be hk hl;simp[ZB,Jc,hk,hw];refine⟨_,_,⟨rfl,rfl⟩,_,hg k hk,?_⟩;simp[ho,hw]
 .have he:=N7 hk (by simpa using ho) hj;simp[ZB,Jc,hk,he];refine⟨_,_,⟨rfl,rfl⟩,_,hg k hk,?_⟩;simp[ho]
 .have he:=N6 hj;simp[ZB,Jc,he]
def aoJ (l:List Int)(f:Nat)(caps:List D)(g:Nat->Bool)(hg:∀k (hk:k<l.length),ah T f (.int l[k]::caps) (.bool (g k)))(hl:l.length<=4294967296):
 ah T 222 [ints l,.clo f caps] (.bool ((List.range l.length).any g)):=by
 refine zyt 33 aGr ?_;simp[acY];refine⟨_,aoR l f caps g hg hl,?_⟩;have:=ahQ l.length g;simp[<-this]
def aoI (l:List Alter)(f:Nat)(caps:List D)(g:Nat->Bool)(hg:∀k (hk:k<l.length),ah T f (qP l[k]::caps) (.bool (g k)))(hl:l.length<=4294967296):
 ah T 217 [alters l,.clo f caps] (.bool ((List.range l.length).any g)):=by
 refine zyt 21 aGq ?_;simp[acX];refine⟨_,aoP l f caps g hg hl,?_⟩;have:=ahQ l.length g;simp[<-this]
def qT (cs:List Cell)(t:Tm):Cell:=if(kh t).2=0 then bo 8 cs t else dj
def ae3 {t:Tm}(h:(kh t).2=0):bz 8 t<=60/\bE 8 t=((kh t).1,0):=by
 unfold kh at h ⊢;split at h
 .cases h
 .rename_i hm;rw[if_neg hm];exact⟨by omega,by rw[<-h]⟩
def aC7 (t:Tm)(cs:List Cell)(ht:t.OK):ah T 131 [dx t,cells cs] (ct (qT cs t)):=by
 refine zyt 47 aGG ?_;simp[adg,qT];refine⟨_,anI t ht,?_⟩;by_cases h:(kh t).2=0
 .obtain⟨h1,h2⟩:=ae3 h;simp[h];refine⟨_,anK 8 cs t _ ht h1 h2,?_⟩;simp
  try rfl
 .simp[h]
  try rfl
def rn:List Int:=[6,7,10,12,13,14,15,16,20,21]
def fi (ask:Int):Int×Bool:=if ask<0\/22<=ask then(0,false) else if hasB rn ask then(0,true) else(1,true)
def Xw (ask:Int):ah T 127 [.int ask] (.tup [.int (fi ask).1,.bool (fi ask).2]):=by
 refine zyt 27 aD8 ?_;simp[aaV,fi];by_cases h0:ask<0
 .simp[h0]
 by_cases h1:22<=ask
 .simp[h0,h1]
 simp[h0,h1];refine⟨_,yL rn ask (by decide),?_⟩;cases h:hasB rn ask<;>simp[h]
def Ou:Tm:=⟨0,0,[]⟩
def mH (o:Order)(ask:Int)(k:Nat):Bool:=decide ((o.rules.getD k default).ask=ask)
def yd (o:Order)(i:Int):Tm:=(o.rules.getD i.toNat default).term
def findF (o:Order)(ask:Int):Tm×Int:=
 if(fi ask).2=false then(Ou,1) else if my o.rules.length (mH o ask)<0 then(Ou,4) else
    if(kh (yd o (my o.rules.length (mH o ask)))).2≠0\/(kh (yd o (my o.rules.length (mH o ask)))).1≠(fi ask).1 then(Ou,11) else(yd o (my o.rules.length (mH o ask)),0)
def Qx {o:Order}(ho:o.OK){m:Nat}(hm:m<o.rules.length):o.rules[m].term.OK:=(ho.2.2 _ (bR hm)).2
def V9:Ou.OK:=by
 exact .mk 0 0 [] (by unfold aX;omega) (by unfold aX;omega) (by decide) (λ_ h=>by cases h)
def ar1 {o:Order}(ho:o.OK)(ask:Int):(findF o ask).1.OK:=by
 unfold findF;split
 .exact V9
 split
 .exact V9
 split
 .exact V9
 .rename_i h _;rcases Af o.rules.length (mH o ask) with⟨h1,h2⟩|⟨m,hm,h1,h2,h3⟩
  .exact absurd (by rw[h1];decide) h
  .rw[h1];simp[yd,hm];exact Qx ho hm
def arZ (r:Rule)(ask:Int):ah T 189 [uy r,.ref (.int ask)] (.bool (decide (r.ask=ask))):=by
 refine zyt 38 aD9 ?_;simp[aaX]
def aAh (o:Order)(ask:Int)(ho:o.OK)(hl:o.rules.length<=4294967296):ah T 130 [iu o,.int ask] (.tup [dx (findF o ask).1,.int (findF o ask).2]):=by
 refine zyt 37 aEa ?_;simp[aaW,findF];refine⟨_,Xw ask,?_⟩;cases h0:(fi ask).2
 .simp[h0]
  try rfl
 simp[h0];refine⟨_,aoQ o.rules 189 [.ref (.int ask)] (mH o ask) (λk hk=>by simpa [mH,hk] using arZ o.rules[k] ask) hl,?_⟩;rcases Af o.rules.length (mH o ask) with⟨h1,h2⟩|⟨m,hm,h1,h2,h3⟩
 .rw[h1];simp
  try rfl
 .rw[h1];have zL:¬((m:Int)<0):=by omega
  have G3:o.rules[m].term.OK:=Qx ho hm;simp[hm,yd,zL];refine⟨_,anI _ G3,?_⟩;by_cases h4:(kh o.rules[m].term).2=0<;>by_cases h5:(kh o.rules[m].term).1=(fi ask).1<;>simp[h4,h5]<;>try rfl
def nR (o:Order)(ask:Int)(cs:List Cell):Cell×Int:=
 if(findF o ask).2≠0 then(dj,(findF o ask).2) else
    (if(fi ask).1=0/\(qT cs (findF o ask).1).known=true then⟨true,min (max (qT cs (findF o ask).1).n 0) 20000⟩ else qT cs (findF o ask).1,0)
def aAf (o:Order)(ask:Int)(cs:List Cell)(ho:o.OK)(hl:o.rules.length<=4294967296):ah T 85 [iu o,.int ask,cells cs] (.tup [ct (nR o ask cs).1,.int (nR o ask cs).2]):=by
 refine zyt 36 aD7 ?_;simp[aaU];refine⟨_,aAh o ask ho hl,?_⟩;have hf:(findF o ask).1.OK:=ar1 ho ask;by_cases h:(findF o ask).2=0
 .simp[h,nR];refine⟨_,aC7 _ cs hf,_,Xw ask,?_⟩;generalize qT cs (findF o ask).1=c;obtain⟨kn,n⟩:=c;by_cases h1:(fi ask).1=0
  .cases kn
   .simp[h1,ct]
   .by_cases h2:n<0
    .have:min (max n 0) 20000=0:=by omega
     simp[h1,ct,h2,this];rfl
    .by_cases h3:20000<n
     .have:min (max n 0) 20000=20000:=by omega
      simp[h1,ct,h2,h3,this];rfl
     .have:min (max n 0) 20000=n:=by omega
      simp[h1,ct,h2,h3,this];rfl
  .simp[h1,ct]
 .simp[h,nR]
  try rfl
def anc (b:Bool):ah T 219 [.bool b] (ct (fj b)):=by
 refine zyt 25 aGn ?_;cases b<;>simp[acU,fj]<;>rfl
def zj (kind sign:Int)(x:Fact):Bool:=decide (x.kind=kind)&&decide (x.at_=sign)
def jr (f:File)(kind sign:Int):Cell:=match f.facts.find? (zj kind sign) with|none=>dj|some x=>fj (decide (x.n≠0))
def qV {α:Type}{p:α->Bool}:∀{l:List α} {k:Nat} (hk:k<l.length),p l[k]=true->(∀j (hj:j<k),p (l[j]'(by omega))=false)->l.find? p=some l[k]
 |a::l,0,hk,h,hj=>by simp at h;simp[h]
 |a::l,k+1,hk,h,hj=>by
  have h0:=hj 0 (by omega);simp at h0;simp only[JQ,h0,List.getElem_cons_succ];exact qV (by simpa using hk) (by simpa using h) (λj br=>by simpa using hj (j+1) (by omega))
def sw {α:Type}{p:α->Bool}{l:List α}(h:∀j (hj:j<l.length),p l[j]=false):l.find? p=none:=by
 rw[tV];intro x hx;obtain⟨j,hj,rfl⟩:=gQ hx;rw[h j hj];decide
def Jo (f:File)(kind sign:Int)(hl:f.facts.length<=4294967296):ah T 220 [bQ f,.int kind,.int sign] (ct (jr f kind sign)):=by
 refine zyt 26 aGj ?_;simp[acR];refine .scan f.facts.length (λk=>zj kind sign (f.facts.getD k default)=false) (λk=>[.int k]) (λ_=>[ct dj]) ?_ (λk hk hj ho=>?_) (λk hk hj ho=>?_) (λhj=>?_)
 .simp
 .have hw:=be hk hl;simp[hk,zj] at ho;by_cases h1:f.facts[k].kind=kind<;>by_cases h2:f.facts[k].at_=sign
  .exact absurd h2 (ho h1)
  all_goals simp[Zx,I9,hk,hw,h1,h2]
 .have hw:=be hk hl;have hf:jr f kind sign=fj (decide (f.facts[k].n≠0)):=by
   unfold jr;rw[qV hk (by simpa [hk] using ho) (λj br=>by have:=hj j br;simpa [show j<f.facts.length by omega] using this)]
  simp[hk,zj] at ho;simp[Zx,I9,hk,hw,ho,hf];refine⟨_,anc _,?_⟩;simp
  try rfl
 .have hf:jr f kind sign=dj:=by
   unfold jr;rw[sw (λj br=>by have:=hj j br;simpa [br] using this)]
  simp[Zx,I9,hf]
  try rfl
def cQ (r:Realm)(c:Int):Int:=if aB c r.cities.length=true then(r.cities.getD c.toNat default).order else-1
def rJ (r:Realm)(c:Int):ah T 181 [aR r,.int c] (.int (cQ r c)):=by
 refine zyt 23 aF7 ?_;simp[acF,cQ];refine⟨_,gu c r.cities.length,?_⟩;cases h:aB c r.cities.length
 .simp[h]
 .simp[aB] at h;have h1:c.toNat<r.cities.length:=by omega
  simp[h,h1]
def pG (day:Int)(l:List Sign):List Sign:=l.takeWhile λs=>decide (s.day<=day)
def AX (day:Int)(l:List Act):List Act:=l.takeWhile λs=>decide (s.day<=day)
def iM (n:Nat)(a:Alter):Bool:=decide (a.at_<=(n:Int))
def jo (n:Nat)(x:Fact):Bool:=aB x.at_ n
def aH (f:File)(day:Int):File:=
 ⟨f.bill,pG day f.signs,f.alters.filter (iM (pG day f.signs).length),AX day f.acts,f.facts.filter (jo (pG day f.signs).length)⟩
def AW {α:Type}(p:α->Bool):∀(l:List α),∃m,m<=l.length/\l.takeWhile p=l.take m/\(∀k (hk:k<l.length),k<m->p l[k]=true)/\(∀hk:m<l.length,p l[m]=false)
 |[]=>⟨0,by simp,by simp,λk hk=>by simp at hk,λhk=>by simp at hk⟩
 |a::l=>by
  by_cases h:p a=true
  .obtain⟨m,h1,h2,h3,h4⟩:=AW p l;refine⟨m+1,by simp;omega,by simp[h,h2],λk hk hm=>?_,λhk=>?_⟩
   .cases k with
    |zero=>simpa using h
    |succ k=>simpa using h3 k (by simpa using hk) (by omega)
   .simpa using h4 (by simpa using hk)
  .refine⟨0,by simp,by simp[h],λk hk hm=>by omega,λhk=>by simpa using h⟩
def yi {α:Type}(p:α->Bool)(l:List α){k:Nat}(hk:k<l.length):(l.take (k+1)).filter p=(l.take k).filter p++if p l[k] then[l[k]] else[]:=by
 rw[gA hk,List.filter_append]
 congr 1
 cases h:p l[k]<;>simp[h]
def mR (b:Bill)(w x y z:D):D:=.agg [.int b.drawer,.int b.drawee,.int b.payee,.int b.sum,.int b.currency,.int b.tenor.kind,.int b.tenor.n,.int b.tenor.unit,.int b.day,.int b.city,.int b.pay,.int b.need,.int b.rate,.int b.flags,.int b.parts,w,x,y,z]
@[simp] def aKl (b:Bill)(w x y z:D):D.agg (dp (mR b w x y z).cells 16 [D.none])=mR b w .none y z:=zyw
@[simp] def aKm (b:Bill)(w x y z:D):D.agg (dp (mR b w x y z).cells 18 [D.none])=mR b w x y .none:=zyw
def mq {α:Type}(l:List α):D:=match l with|[]=>.list []|_=>.none
@[simp] def aMT {α:Type}:mq ([]:List α)=.list []:=rfl
@[simp] def ag8 {α:Type}(l:List α)(x:α):mq (l++[x])=.none:=by cases l<;>rfl
def Qq (f:File)(day:Int)(h1:f.signs.length<=4294967295)(h2:f.acts.length<=4294967295)(h3:f.alters.length<=4294967295)(h4:f.facts.length<=4294967295):ah T 29 [bQ f,.int day] (bQ (aH f day)):=by
 refine zyt 11 aGi ?_;simp[acQ];obtain⟨m,hm,hS,CT,sy⟩:=AW (λs:Sign=>decide (s.day<=day)) f.signs;obtain⟨n,hn,hA,T9,Ua⟩:=AW (λs:Act=>decide (s.day<=day)) f.acts;refine aG.forRounds m (λk=>[.int k]) (λk=>[signs (f.signs.take k),mR f.bill (mq (f.signs.take k)) (.list []) (.list []) (.list [])]) ?_ (λk hk=>?_) ?_
 .simp[mR,signs]
  try rfl
 .have bu:k<f.signs.length:=by omega
  have hw:=be bu (by omega);have hd:=CT k bu hk;simp at hd;have fo:¬day<f.signs[k].day:=by omega
  have hle:(k:Int)+1<=4294967296:=by omega
  have ht:=gA bu;rw[ht];have hlen:(f.signs.take k).length=k:=by simp;omega
  generalize f.signs.take k=A at*;simp[Zt,I5,bu,hw,fo,hlen];exact⟨hle,by simp[signs],rfl⟩
 have hSl:(f.signs.take m).length<=4294967295:=by rw[eQ];omega
 have Ub:aH f day=⟨f.bill,f.signs.take m,f.alters.filter (iM (f.signs.take m).length),f.acts.take n,f.facts.filter (jo (f.signs.take m).length)⟩:=by
  unfold aH pG AX;rw[hS,hA]
 rw[Ub];generalize f.signs.take m=S at*;have hAl:(f.acts.take n).length<=4294967295:=by rw[eQ];omega
 by_cases cP:m<f.signs.length
 case' pos=>
  have hd:=sy cP;simp at hd;simp[Zt,I5,cP,hd];generalize D.bool true=bb
 case' neg=>
  have uN:m=f.signs.length:=by omega
  simp[Zt,I5,cP,uN];generalize D.bool false=bb
 all_goals
  refine aG.forRounds n (λk=>[.int k]) (λk=>[acts (f.acts.take k),mR f.bill (mq S) (.list []) (mq (f.acts.take k)) (.list [])]) ?_ (λk hk=>?_) ?_
  .simp[acts]
  .have bu:k<f.acts.length:=by omega
   have hw:=be bu (by omega);have hd:=T9 k bu hk;simp at hd;have fo:¬day<f.acts[k].day:=by omega
   have hle:(k:Int)+1<=4294967296:=by omega
   have ht:=gA bu;rw[ht];have hlen:(f.acts.take k).length=k:=by simp;omega
   generalize f.acts.take k=A at*;simp[Zu,I6,bu,hw,fo,hlen];exact⟨hle,by simp[acts],rfl⟩
  generalize f.acts.take n=A at*;by_cases jw:n<f.acts.length
  case' pos=>
   have hd:=Ua jw;simp at hd;simp[Zu,I6,jw,hd];generalize D.bool true=bc
  case' neg=>
   have zK:n=f.acts.length:=by omega
   simp[Zu,I6,jw,zK];generalize D.bool false=bc
  all_goals
   refine aG.forRounds f.alters.length (λk=>[.int k]) (λk=>[mR f.bill (mq S) (mq ((f.alters.take k).filter (iM S.length))) (mq A) (.list []),alters ((f.alters.take k).filter (iM S.length))]) ?_ (λk hk=>?_) ?_
   .simp[alters]
   .have hw:=be hk (by omega);have ht:=yi (iM S.length) f.alters hk;rw[ht];have hlen:((f.alters.take k).filter (iM S.length)).length<=k:=jf (tY _ _) (by simp;omega);generalize (f.alters.take k).filter (iM S.length)=B at*;by_cases hd:f.alters[k].at_<=(S.length:Int)
    .simp[Zv,I7,iM,hk,hw,hd];exact⟨by omega,rfl,by simp[alters]⟩
    .simp[Zv,I7,iM,hk,hw,hd]
   simp[Zv,I7];generalize f.alters.filter (iM S.length)=B at*;refine aG.forRounds f.facts.length (λk=>[.int k]) (λk=>[mR f.bill (mq S) (mq B) (mq A) (mq ((f.facts.take k).filter (jo S.length))),facts ((f.facts.take k).filter (jo S.length))]) ?_ (λk hk=>?_) ?_
   .simp[facts]
   .have hw:=be hk (by omega);have ht:=yi (jo S.length) f.facts hk;rw[ht];have hlen:((f.facts.take k).filter (jo S.length)).length<=k:=jf (tY _ _) (by simp;omega);generalize (f.facts.take k).filter (jo S.length)=C at*;cases hd:aB f.facts[k].at_ S.length
    .simp[Zw,I8,jo,hk,hw,hd];refine⟨_,rK _ _,?_⟩;simp[hd,hw]
    .simp[Zw,I8,jo,hk,hw,hd];refine⟨_,rK _ _,?_⟩;simp[hd,hw];exact⟨by omega,rfl,by simp[facts]⟩
   simp[Zw,I8];rfl
def qg:List Int->Int
 |[]=>-1
 |x::l=>l.foldl min x
def ao2 (x:Int)(l:List Int)(hl:l.length<4294967296):ah T 125 [ints (x::l)] (.int (qg (x::l))):=by
 refine zyt 60 aGz ?_;have h0:¬((l.length:Int)+1<1):=by omega
 simp[ac6,h0,qg,ints];refine aG.forRounds l.length (λk=>[.int ((l.take k).foldl min x),.int ((k:Int)+1)]) (λk=>[]) ?_ (λk hk=>?_) ?_
 .simp
 .have hw:i64.wrap ((k:Int)+1+1)=(k:Int)+1+1:=ax (by omega);rw[gA hk,rX];generalize (l.take k).foldl min x=y;have ht:((k:Int)+1).toNat=k+1:=by omega
  have aq:(k:Int)+1<(l.length:Int)+1:=by omega
  simp[am8,Qk,hk,hw,ht,aq];refine⟨by omega,?_⟩;by_cases h:l[k]<y
  .simp[h];omega
  .simp[h];omega
 .simp[am8,Qk]
def jY (f:File)(n:Nat):List Int:=if f.bill.tenor.kind=1 then((f.signs.take n).filter (λs=>decide (s.kind=1))).map (·.day) else[]
def jd (f:File)(n:Nat):List Int:=if f.bill.tenor.kind=1 then((f.acts.take n).filter (λs=>decide (s.kind=1))).map (·.day) else[]
def rO (f:File)(a:Act):Bool:=decide (f.bill.tenor.kind=0)&&decide (a.kind=2)
def nB (f:File):Int:=match f.acts.find? (rO f) with|some a=>a.day|none=>qg (jY f f.signs.length++jd f f.acts.length)
def aB2 (f:File)(h1:f.signs.length<=100000)(h2:f.acts.length<=100000):ah T 83 [bQ f] (.int (nB f)):=by
 refine zyt 59 aGk ?_;simp[acS];refine aG.forRounds f.signs.length (λk=>[.none,.int k]) (λk=>[ints (jY f k)]) ?_ (λk hk=>?_) ?_
 .simp[jY,ints]
 .have hw:=be hk (by omega);have hs:jY f (k+1)=jY f k++if f.bill.tenor.kind=1/\f.signs[k].kind=1 then[f.signs[k].day] else[]:=by
   unfold jY;by_cases h:f.bill.tenor.kind=1
   .simp only[if_pos h,yi _ _ hk,vP,h,true_and]
    congr 1
    by_cases h':f.signs[k].kind=1<;>simp[h']
   .simp[h]
  have hlen:(jY f k).length<=k:=by
   unfold jY;split
   .rw[nN];exact jf (tY _ _) (by simp;omega)
   .simp
  rw[hs];generalize jY f k=A at*;by_cases hc:f.bill.tenor.kind=1/\f.signs[k].kind=1
  .simp[Zy,Ja,hk,hw,hc];exact⟨by omega,by simp[ints]⟩
  .simp[Zy,Ja,hk,hw,hc]
 .have hlS:(jY f f.signs.length).length<=100000:=by
   unfold jY;split
   .rw[nN];exact jf (tY _ _) (by simp;omega)
   .simp
  have hE:nB f=match f.acts.find? (rO f) with|some a=>a.day|none=>qg (jY f f.signs.length++jd f f.acts.length):=rfl
  generalize jY f f.signs.length=A at*;simp[Zy,Ja];refine aG.scan f.acts.length (λk=>rO f (f.acts.getD k default)=false) (λk=>[.int 0,.none,.int k]) (λk=>[ints (A++jd f k)]) ?_ (λk hk hj ho=>?_) (λk hk hj ho=>?_) (λhj=>?_)
  .simp[jd,ints]
  .have hw:=be hk (by omega);have hs:jd f (k+1)=jd f k++if f.bill.tenor.kind=1/\f.acts[k].kind=1 then[f.acts[k].day] else[]:=by
        unfold jd;by_cases h:f.bill.tenor.kind=1
        .simp only[if_pos h,yi _ _ hk,vP,h,true_and]
         congr 1
         by_cases h':f.acts[k].kind=1<;>simp[h']
        .simp[h]
   have hlen:(jd f k).length<=k:=by
        unfold jd;split
        .rw[nN];exact jf (tY _ _) (by simp;omega)
        .simp
   rw[hs];generalize jd f k=B at*;simp[rO,hk] at ho;by_cases hc:f.bill.tenor.kind=1/\f.acts[k].kind=1
   .simp[Jb,AM,hk,hw,hc];exact⟨by omega,by simp[ints]⟩
   .have hn:¬(f.bill.tenor.kind=0/\f.acts[k].kind=2):=λh=>ho h.1 h.2;simp[Jb,AM,hk,hw,hc,hn]
  .have hf:nB f=f.acts[k].day:=by
        rw[hE,qV hk (by simpa [hk] using ho) (λj br=>by have:=hj j br;simpa [show j<f.acts.length by omega] using this)]
   simp[rO,hk] at ho;simp[Jb,AM,hk,ho,hf]
  .have hf:nB f=qg (A++jd f f.acts.length):=by
        rw[hE,sw (λj br=>by have:=hj j br;simpa [br] using this)]
   have hlA:(jd f f.acts.length).length<=100000:=by
        unfold jd;split
        .rw[nN];exact jf (tY _ _) (by simp;omega)
        .simp
   rw[hf];have hL:(A++jd f f.acts.length).length<=200000:=by rw[nL];omega
   generalize A++jd f f.acts.length=L at*;cases L with
   |nil=>simp[Jb,AM,qg,ints]
   |cons x l=>
    have aI:¬((l.length:Int)+1=0):=by omega
    simp[Jb,AM,aI];exact ao2 x l (by simp at hL;omega)
def iN (g:Nat->Cell):D:=.list ((List.range 20).map λi=>ct (g i))
def ae1 {g g':Nat->Cell}(h:∀i,i<20->g i=g' i):iN g=iN g':=by
 unfold iN
 congr 1
 exact Ba λi hi=>by rw[h i (by simpa using hi)]
def ae2 (g:Nat->Cell)(k:Nat)(c:Cell):D.list ((iN g).l.set k (ct c))=iN (λi=>if i=k then c else g i):=by
 unfold iN
 congr 1
 show((List.range 20).map λi=>ct (g i)).set k (ct c)=_;apply JP
 .simp
 .intro i h1 h2;simp at h2;rw[aed];by_cases h:k=i
  .simp[h]
  .have h':¬i=k:=λe=>h e.symm;simp[h,h']
@[simp] def aKT (g:Nat->Cell):(iN g).l.length=20:=by
  show((List.range 20).map λi=>ct (g i)).length=20;simp
def Kv (g:Nat->Cell){k:Nat}(hk:k<20):(iN g).l[k]?.getD D.none=ct (g k):=by
 show((List.range 20).map λi=>ct (g i))[k]?.getD D.none=ct (g k);simp[hk]
def ap9 (g:Nat->Cell){k:Nat}(hk:k<(iN g).l.length):(iN g).l[k]=ct (g k):=by
 have h:=Kv g (k:=k) (by simpa using hk);rw[cd hk] at h;exact h
def aqb (g:Nat->Cell)(k:Nat)(c:Cell):(iN g).l.set k (ct c)=(iN (λi=>if i=k then c else g i)).l:=congrArg D.l (ae2 g k c)
def aqa (g:Nat->Cell):D.list (iN g).l=iN g:=rfl
@[simp] def aOE (x:Cell)(b:Bool)(n:Int):tG (ct x) 0 (D.agg [D.bool b,D.int n])=ct ⟨b,n⟩:=zyw
def CM {α:Type}(l:List (Int×α))(val:α->Cell)(g0:Nat->Cell)(i:Nat):Cell:=match l.find? (λp=>decide (p.1=(i:Int))) with|some p=>val p.2|none=>g0 i
def s9 {α:Type}(enc:α->D)(p:Int×α):D:=.tup [.int p.1,enc p.2]
def air {α:Type}{J o:Nat}{ps dz:List Nat}{a:PC}{Z:Env}{Q:Out->Prop}(l:List (Int×α))(enc:α->D)(val:α->Cell)(g0:Nat->Cell)
 (nd:∀p q,p∈l->q∈l->p.1=q.1->p=q) (ZN:∀p,p∈l->0<=p.1) (he:Z.o J=.tup [.list [],.map (l.map λp=>(.int p.1,enc p.2))]) (h0:Z.o o=iN g0)
 (step:∀p,p∈l->∀g done,aL T (rL [o] a) ((Z.put ps (dz.map (s9 enc p).tget) [o] [iN g]).setO J (.tup [.list (done++[s9 enc p]),.map (l.map λp=>(.int p.1,enc p.2))])) (λy=>∃Z',y=.next Z'/\Z'.o o=.list ((iN g).l.set p.1.toNat (ct (val p.2)))))
 (last:Q (.next (Z.put [] [] [o] [iN (CM l val g0)]))):aG T (.meach J ps dz [o] a) Z Q:=by
 have oN:iZ (.map (l.map λp=>((D.int p.1,enc p.2):D×D)))=l.map (s9 enc):=by
  simp[iZ,s9]
 refine .meachR _ he (λdone vo=>∃g:Nat->Cell,vo=[iN g]/\(∀p,p∈l->s9 enc p∈done->g p.1.toNat=val p.2)/\∀i:Nat,(∀p,p∈l->s9 enc p∈done->p.1≠i)->g i=g0 i) ⟨g0,by simp[h0],(λp _ h=>by cases h),λi _=>rfl⟩ (λdone x rest vo hp ⟨g,hv,jO,iv⟩=>?_) ⟨_,λdone hp vo ⟨g,hv,jO,iv⟩=>?_,last⟩
 .subst hv;rw[oN] at hp;have hx:x∈l.map (s9 enc):=hp.subset (by simp);obtain⟨p,eL,rfl⟩:=fF.mp hx;refine Bg _ (λy ⟨Z',e,ho⟩=>⟨Z',e,λi=>if i=p.1.toNat then val p.2 else g i,by simp[ho,ae2],λq hq GU=>?_,λi hi=>?_⟩) (step p eL g done)
  .have zP:=ZN q hq;have q9:=ZN p eL;by_cases h:q.1=p.1
   .rw[nd q p hq eL h];simp
   .show(if q.1.toNat=p.1.toNat then val p.2 else g q.1.toNat)=val q.2;rw[if_neg (by omega)];rcases dT.mp GU with h1|h1
    .exact jO q hq h1
    .simp[s9] at h1;exact absurd h1.1 h
  .have q9:=ZN p eL;have gi:=hi p eL (by simp);show(if i=p.1.toNat then val p.2 else g i)=g0 i;rw[if_neg (by omega)];exact iv i λq hq GU=>hi q hq (by simp[GU])
 .rw[hv,oN] at*
  congr 1
  refine ae1 λi hi=>?_;unfold CM;cases hf:l.find? (λp=>decide (p.1=(i:Int))) with
  |some p=>
   have eL:=Bc hf;have NS:p.1=(i:Int):=by simpa using Rw hf
   have:=jO p eL (hp.symm.subset (List.mem_map_of_mem eL));simp only;rw[<-this,NS];rfl
  |none=>
   refine iv i λp eL _=>?_;have:=tV.mp hf p eL;simpa using this
@[simp] def aNk (a b:Int):dJ (D.int a) (D.int b)=decide (a=b):=by
  show((a==b)&&true)=decide (a=b);rw[Bool.and_true];by_cases h:a=b<;>simp[h]
def wF (n k:Int):Bool:=decide (bO .and .i64 n k≠0)
def xw (s:Sign)(due:Int):Int:=if due=-1 then 0 else s.day-due
def RZ (f:File)(sign:Int):Bool:=(List.range f.alters.length).any λk=>decide ((f.alters.getD k default).at_<=sign)
def mm (c:Case):Int:=if c.holder<0 then 0 else c.holder
def tB (c:Case)(s:Sign):List (Int×Int):=[(0,c.file.bill.sum),(1,c.file.bill.parts),(2,c.file.bill.tenor.kind),(3,c.file.bill.rate),(4,s.kind),(5,c.defence),(6,xw s c.due)]
def tC (r:Realm)(c:Case)(s:Sign):List (Int×Bool):=[(7,wF c.file.bill.flags 1),(8,decide (c.file.bill.payee=-1)),(9,wF c.file.bill.flags 4),(10,wF c.file.bill.flags 2),(11,decide (cQ r c.file.bill.city≠cQ r c.file.bill.pay)),(12,RZ c.file c.sign),(13,wF s.flags 1),(14,decide (0<xw s c.due))]
def CO (r:Realm)(c:Case)(s:Sign):List Cell:=
 (tB c s).map (λp=>⟨true,p.2⟩)++(tC r c s).map (λp=>fj p.2)++
    [jr c.file 0 c.sign,jr c.file 1 c.sign,jr c.file 2 c.sign,jr c.file 3 (mm c),jr c.file 4 (mm c)]
@[simp] def aKp (x:Case):jl 19 (eF x)=bQ x.file:=zyw
@[simp] def aKn (x:Case):jl 15 (eF x)=dc x.file.bill:=zyw
@[simp] def aKo (x:File):jl 15 (bQ x)=dc x.bill:=zyw
def nT (c:Case):Bool:=aB c.sign c.file.signs.length&&decide (-1<=c.holder)&&decide (mm c<c.file.signs.length)&&(decide (c.due=-1)||aB c.due 100001)
def eA (r:Realm)(c:Case):List Cell:=if nT c=true/\aB (c.file.signs.getD c.sign.toNat default).day 100001=true then CO r c (c.file.signs.getD c.sign.toNat default) else[]
def aB3 (r:Realm)(c:Case)(h2:c.file.facts.length<=100000)(h3:c.file.alters.length<=100000):ah T 184 [aR r,eF c] (cells (eA r c)):=by
 refine zyt 19 aGm ?_;cases hs:aB c.sign c.file.signs.length
 .have hv:eA r c=[]:=by unfold eA nT;rw[hs];simp
  rw[hv];simp[yq];refine⟨_,rK _ _,?_⟩;simp[hs];rfl
 by_cases hh:c.holder< -1
 .have hv:eA r c=[]:=by unfold eA nT;rw[hs];simp;intros;omega
  rw[hv];simp[yq,hh];exact⟨⟨_,rK _ _⟩,rfl⟩
 by_cases hm:(c.file.signs.length:Int)<=mm c
 .have hv:eA r c=[]:=by unfold eA nT;rw[hs];simp;intros;omega
  rw[hv];unfold mm at hm;simp[yq,hm];exact⟨⟨_,rK _ _⟩,rfl⟩
 by_cases hd:c.due≠-1/\aB c.due 100001=false
 .have hv:eA r c=[]:=by unfold eA nT;rw[hs];simp[hd]
  rw[hv];unfold mm at hm;obtain⟨bB,dD⟩:=hd;simp[yq,hh,hm,bB];refine⟨_,rK _ _,?_⟩;simp[hs,hh,hm,bB];refine⟨_,rK _ _,?_⟩;simp[hs,hh,hm,bB,dD];rfl
 have Nt:nT c=true:=by
  unfold nT;rw[hs];simp;refine⟨⟨by omega,by omega⟩,?_⟩;by_cases h:c.due=-1
  .exact .inl h
  .right;cases hb:aB c.due 100001
   .exact absurd ⟨h,hb⟩ hd
   .rfl
 have hlen:c.sign.toNat<c.file.signs.length:=by simp[aB] at hs;omega
 have dN:0<=c.sign/\c.sign<(c.file.signs.length:Int):=by simpa [aB] using hs
 obtain⟨s,dy⟩:∃s:Sign,s=c.file.signs[c.sign.toNat]:=⟨_,rfl⟩
 have dO:c.file.signs.getD c.sign.toNat default=s:=by rw[dy];simp[hlen]
 have hv:eA r c=if aB s.day 100001=true then CO r c s else[]:=by
  unfold eA;rw[dO,Nt];simp
 rw[hv];unfold mm at hm;by_cases wN:c.due=-1
 case' pos=>
  have agt:(c.due=-1)=True:=eq_true wN;simp[yq,hh,hm,agt];refine⟨_,rK _ _,?_⟩;simp[hs,hh,hm,agt,hlen,<-dy,dN]
 case' neg=>
  have Gp:aB c.due 100001=true:=by
   cases hb:aB c.due 100001
   .exact absurd ⟨wN,hb⟩ hd
   .rfl
  simp[yq,hh,hm,wN];refine⟨_,rK _ _,?_⟩;simp[hs,hh,hm,wN];refine⟨_,rK _ _,?_⟩;simp[hs,hh,hm,wN,Gp,hlen,<-dy,dN]
 all_goals
  refine⟨_,rK _ _,?_⟩;cases Nv:aB s.day 100001
  .simp[Nv];rfl
  simp[Nv,ez];refine air (tB c s) D.int (λn=>⟨true,n⟩) (λ_=>dj) ?_ ?_ ?_ ?_ (λp hp g done=>?_) ?_
  .intro p q hp hq h;simp[tB] at hp hq;rcases hp with rfl|rfl|rfl|rfl|rfl|rfl|rfl<;>rcases hq with rfl|rfl|rfl|rfl|rfl|rfl|rfl<;>first|rfl|(simp at h)
  .intro p hp;simp[tB] at hp;rcases hp with rfl|rfl|rfl|rfl|rfl|rfl|rfl<;>simp
  .have C5:(if c.due=-1 then(0:Int) else i64.wrap (s.day-c.due))=xw s c.due:=by
        unfold xw;by_cases h:c.due=-1
        .simp[h]
        .have Gp:aB c.due 100001=true:=by
          cases hb:aB c.due 100001
          .exact absurd ⟨h,hb⟩ hd
          .rfl
         simp[aB] at Gp Nv;rw[if_neg h,if_neg h];exact ax (by omega)
   simp[tB,ez,hlen,<-dy];rw[<-C5];by_cases h:c.due=-1<;>simp[h]
  .simp[iN];rfl
  .have hr:0<=p.1/\p.1<20:=by
        simp[tB] at hp;rcases hp with rfl|rfl|rfl|rfl|rfl|rfl|rfl<;>simp
   have hk:p.1.toNat<20:=by omega
   simp[aBS,Zz,s9,Kv g hk];exact hr
  have avj:∀k (hk:k<c.file.alters.length),ah T 218 (qP c.file.alters[k]::[.ref (eF c)]) (.bool (decide ((c.file.alters.getD k default).at_<=c.sign))):=λk hk=>by
   refine zyt 20 aGl ?_;simp[acT,hk]
  simp;refine⟨_,aoI c.file.alters _ _ _ avj (by omega),_,rJ r _,_,rJ r _,?_⟩;have C5:(if c.due=-1 then(0:Int) else i64.wrap (s.day-c.due))=xw s c.due:=by
   unfold xw;by_cases h:c.due=-1
   .simp[h]
   .have Gp:aB c.due 100001=true:=by
     cases hb:aB c.due 100001
     .exact absurd ⟨h,hb⟩ hd
     .rfl
    simp[aB] at Gp Nv;rw[if_neg h,if_neg h];exact ax (by omega)
  have UF:cells (CO r c s)=iN (λi=>if i=15 then jr c.file 0 c.sign else if i=16 then jr c.file 1 c.sign else if i=17 then jr c.file 2 c.sign else if i=18 then jr c.file 3 (mm c) else if i=19 then jr c.file 4 (mm c) else CM (tC r c s) fj (CM (tB c s) (λn=>⟨true,n⟩) (λ_=>dj)) i):=by
   rfl
  generalize CM (tB c s) (λn=>(⟨true,n⟩:Cell)) (λ_=>dj)=g1 at*;refine air (tC r c s) D.bool fj g1 ?_ ?_ ?_ ?_ (λp hp g done=>?_) ?_
  .intro p q hp hq h;simp[tC] at hp hq;rcases hp with rfl|rfl|rfl|rfl|rfl|rfl|rfl|rfl<;>rcases hq with rfl|rfl|rfl|rfl|rfl|rfl|rfl|rfl<;>first|rfl|(simp at h)
  .intro p hp;simp[tC] at hp;rcases hp with rfl|rfl|rfl|rfl|rfl|rfl|rfl|rfl<;>simp
  .simp[tC,ez,hlen,<-dy,wF];rw[<-C5];by_cases h:c.due=-1<;>simp[h,RZ]
  .simp
  .have hr:0<=p.1/\p.1<20:=by
        simp[tC] at hp;rcases hp with rfl|rfl|rfl|rfl|rfl|rfl|rfl|rfl<;>simp
   have hk:p.1.toNat<20:=by omega
   simp[aBT,ZA,s9,Kv g hk];refine⟨_,anc _,?_⟩;simp[Kv g hk];exact hr
  simp;generalize CM (tC r c s) fj g1=g2 at*;have zG:(if c.holder<0 then D.int 0 else D.int c.holder)=D.int (mm c):=by
   unfold mm;split<;>rfl
  rw[zG];refine⟨_,Jo _ _ _ (by omega),_,Jo _ _ _ (by omega),_,Jo _ _ _ (by omega),_,Jo _ _ _ (by omega),_,Jo _ _ _ (by omega),?_⟩;rw[UF];simp only[ap9,aCQ,aqb,aqa];refine ae1 λi hi=>?_;by_cases Nc:i=15
  .subst Nc;simp
  by_cases Nd:i=16
  .subst Nd;simp
  by_cases Nf:i=17
  .subst Nf;simp
  by_cases Ng:i=18
  .subst Ng;simp
  by_cases h19:i=19
  .subst h19;simp
  simp[Nc,Nd,Nf,Ng,h19]
def HG (n:Nat)(x:Int):Bool:=decide (x<0)||decide ((n:Int)<=x)
def jM (r:Realm)(a q:Int)(l:List Int):Bool:=
 !(decide (a<0)||decide ((r.orders.length:Int)<=a)||decide (q<0)||decide (22<=q)||decide (l.length≠5))&& !((List.range l.length).any λk=>HG r.orders.length (l.getD k 0))
def ar2 (x n:Int):ah T 223 [.int x,.ref (.int n)] (.bool (decide (x<0)||decide (n<=x))):=by
 refine zyt 32 aDX ?_;by_cases h:x<0<;>simp[aaL,h]
def afO (r:Realm)(a q:Int)(l:List Int)(hl:l.length<=100000):ah T 186 [aR r,.int a,.int q,ints l] (.bool (jM r a q l)):=by
 refine zyt 31 aDY ?_;by_cases h1:a<0
 .simp[yn,jM,h1]
 by_cases h2:(r.orders.length:Int)<=a
 .simp[yn,jM,h1,h2]
 by_cases h3:q<0
 .simp[yn,jM,h1,h2,h3]
 by_cases h4:22<=q
 .simp[yn,jM,h1,h2,h3,h4]
 by_cases h5:(l.length:Int)=5
 .have Ni:l.length=5:=by omega
  simp[yn,h1,h2,h3,h4,Ni];refine⟨_,aoJ l 223 [.ref (.int r.orders.length)] (λk=>HG r.orders.length (l.getD k 0)) (λk hk=>by simpa [HG,hk] using ar2 l[k] r.orders.length) (by omega),?_⟩;simp only[jM,Ni];simp[h1,h2,h3,h4]
 .have Ni:¬l.length=5:=by omega
  simp[yn,jM,h1,h2,h3,h4,Ni];intro h;omega
def CN {r:Realm}{a q:Int}{l:List Int}(h:jM r a q l=true):(0<=a/\a<r.orders.length)/\l.length=5/\(∀x,x∈l->0<=x/\x<r.orders.length)/\∀b:Int,0<=b->b<r.orders.length->jM r b q l=true:=by
 unfold jM at h ⊢;rw[aA] at h;obtain⟨h1,h2⟩:=h;simp at h1;refine⟨by omega,h1.2,λx hx=>?_,λb iQ eI=>?_⟩
 .obtain⟨k,hk,rfl⟩:=gQ hx;simp[HG] at h2;have:=h2 k hk;simp[hk] at this;omega
 .rw[h2];simp;omega
def yK (r:Realm):Prop:=∀o,o∈r.orders->o.choices.length<=100000/\∀ch,ch∈o.choices->0<=ch.by_/\ch.by_<5
def mz (q:Int)(ch:Choice):Bool:=decide (ch.ask=q)&&decide (ch.by_≠0)
def iI (r:Realm)(a:Int):Order:=r.orders.getD a.toNat default
def fy (r:Realm)(a q:Int)(l:List Int):Int×Bool:=
 (match(iI r a).choices.find? (mz q) with|some ch=>l.getD ch.by_.toNat 0|none=>a,match(iI r a).choices.find? (mz q) with|some ch=>ch.whole|none=>false)
def Rt (r:Realm)(lD:yK r)(a q:Int)(l:List Int)(hl:l.length<=100000)(hf:jM r a q l=true):
 ah T 187 [aR r,.int a,.int q,ints l] (.tup [.int (fy r a q l).1,.bool (fy r a q l).2])/\0<=(fy r a q l).1/\(fy r a q l).1<r.orders.length:=by
 obtain⟨ha,wT,hx,_⟩:=CN hf;have oD:a.toNat<r.orders.length:=by omega
 obtain⟨bG,lF⟩:=lD _ (bR oD);obtain⟨o,ho⟩:∃o,o=r.orders[a.toNat]:=⟨_,rfl⟩
 rw[<-ho] at bG lF;have zM:iI r a=o:=by rw[ho];simp[iI,oD]
 unfold fy;rw[zM];refine⟨?_,?_⟩
 .refine zyt 35 aDW ?_;simp[aaK];refine⟨_,afO r a q l hl,?_⟩;simp[hf,oD,<-ho,ha];refine aG.scan o.choices.length (λk=>mz q (o.choices.getD k default)=false) (λk=>[.int 0,.bool false,.int k]) (λ_=>[]) ?_ (λk hk hj aE=>?_) (λk hk hj aE=>?_) (λhj=>?_)
  .simp
  .have hw:=be hk (by omega);have hn:¬(o.choices[k].ask=q/\¬o.choices[k].by_=0):=by simpa [mz,hk] using aE
   simp[Yz,Ig,oD,<-ho,hk,hw,hn]
  .have dM:=qV hk (by simpa [hk] using aE) (λj br=>by have:=hj j br;simpa [show j<o.choices.length by omega] using this);rw[dM];have hc:o.choices[k].ask=q/\¬o.choices[k].by_=0:=by simpa [mz,hk] using aE
   have hb:=lF _ (bR hk);have CY:o.choices[k].by_.toNat<l.length:=by omega
   simp[Yz,Ig,oD,<-ho,hk,hc,ints,CY];omega
  .have dM:=sw (l:=o.choices) (p:=mz q) (λj br=>by have:=hj j br;simpa [br] using this);rw[dM];simp[Yz,Ig,oD,<-ho]
 .cases dM:o.choices.find? (mz q) with
  |none=>exact ha
  |some ch=>
   have hb:=lF _ (Bc dM);have CY:ch.by_.toNat<l.length:=by omega
   simp[CY];exact hx _ (bR CY)
def O4:∀(N:Nat) (l:List Int),l.Nodup->(∀x,x∈l->0<=x/\x<(N:Int))->l.length<=N
 |0,l,hn,h=>by
  cases l with
  |nil=>simp
  |cons a l=>have:=h a (by simp);omega
 |N+1,l,hn,h=>by
  by_cases hm:(N:Int)∈l
  .have h1:=O4 N (l.erase (N:Int)) (hn.erase _) (λx hx=>by
    have dE:=(hn.mem_erase_iff).mp hx;have:=h x dE.2;have aI:=dE.1;omega)
   rw[List.length_erase_of_mem hm] at h1;omega
  .have h1:=O4 N l hn (λx hx=>by
    have:=h x hx;have aI:x≠(N:Int):=λe=>hm (e▸hx);omega)
   omega
def cB (l:List Int):Int:=l.getD (l.length-1) 0
def iX (r:Realm)(q:Int)(l:List Int):Nat->List Int->List Int×Int
 |0,p=>(p,0)
 |n+1,p=>
  if(fy r (cB p) q l).1=cB p then(p,0)
  else if(fy r (cB p) q l).2=false\/(hasB p (fy r (cB p) q l).1=true/\(iI r (fy r (cB p) q l).1).accepts=true) then(p++[(fy r (cB p) q l).1],0)
  else if hasB p (fy r (cB p) q l).1=true then(p++[(fy r (cB p) q l).1],12)
  else iX r q l n (p++[(fy r (cB p) q l).1])
def Hj (r:Realm)(q:Int)(l:List Int)(n:Nat)(p:List Int):iX r q l (n+1) p=
 if(fy r (cB p) q l).1=cB p then(p,0)
 else if(fy r (cB p) q l).2=false\/(hasB p (fy r (cB p) q l).1=true/\(iI r (fy r (cB p) q l).1).accepts=true) then(p++[(fy r (cB p) q l).1],0)
 else if hasB p (fy r (cB p) q l).1=true then(p++[(fy r (cB p) q l).1],12)
 else iX r q l n (p++[(fy r (cB p) q l).1]):=rfl
def de (r:Realm)(a q:Int)(l:List Int):List Int×Int:=if jM r a q l=true/\l.getD 0 0=a then iX r q l r.orders.length [a] else([],1)
def aoX (r:Realm)(lD:yK r)(hn:r.orders.length<=100000)(a q:Int)(l:List Int)(hl:l.length<=100000):ah T 129 [aR r,.int a,.int q,ints l] (.tup [ints (de r a q l).1,.int (de r a q l).2]):=by
 refine zyt 30 aDV ?_;simp[aaJ];refine⟨_,afO r a q l hl,?_⟩;cases hf:jM r a q l
 .simp[de,hf];rfl
 obtain⟨ha,wT,hx,mf⟩:=CN hf;have h0:0<l.length:=by omega
 by_cases pW:l[0]=a
 .have hE:de r a q l=iX r q l r.orders.length [a]:=by unfold de;rw[if_pos ⟨hf,by simp[h0,pW]⟩]
  rw[hE];simp[h0,pW,ints];refine aG.forLoop (α:=Nat×List Int) (λs vr vo=>vr=[.list [],.int 0,.none]/\vo=[ints s.2]/\s.2.Nodup/\(∀x,x∈s.2->0<=x/\x<(r.orders.length:Int))/\s.2≠[]/\s.1+s.2.length=r.orders.length+1/\iX r q l s.1 s.2=iX r q l r.orders.length [a]) (λs=>s.1) (r.orders.length,[a]) ?_ ?_
  .simp[ints];exact ha
  .rintro⟨n,p⟩ vr vo ⟨rfl,rfl,bX,cj,aI,hlen,uK⟩;simp only at*;have eL:p.length<=r.orders.length:=O4 _ p bX cj;have zN:0<p.length:=A9.mpr aI;obtain⟨m,rfl⟩:∃m,n=m+1:=⟨n-1,by omega⟩
   have aq:p.length-1<p.length:=by omega
   have gZ:cB p=p[p.length-1]:=by simp[cB,aq]
   have oI:=cj _ (bR aq);rw[<-gZ] at oI;obtain⟨zt,fq,fu⟩:=Rt r lD (cB p) q l hl (mf _ oI.1 oI.2);have wV:((p.length:Int)-1).toNat=p.length-1:=by omega
   have zZ:i64.wrap ((p.length:Int)-1)=(p.length:Int)-1:=ax (by omega);rw[<-uK,Hj];obtain⟨L,hL⟩:∃L,L=fy r (cB p) q l:=⟨_,rfl⟩
   rw[<-hL] at zt fq fu ⊢;obtain⟨to,whole⟩:=L;simp only at zt fq fu;have nf:to.toNat<r.orders.length:=by omega
   have zM:iI r to=r.orders[to.toNat]:=by simp[iI,nf]
   simp only[zM];simp[aBP,Yy,zZ,wV,aq,<-gZ,ints];refine⟨by omega,_,zt,?_⟩;by_cases h1:to=cB p
   .simp[h1]
   simp[h1];refine⟨_,yL p to (by omega),by omega,?_⟩;cases whole
   .simp
   cases h2:hasB p to
   .have eK:to∉p:=λhm=>by
     have:hasB p to=true:=by simp[hasB,hm]
     rw[h2] at this;cases this
    simp[h2];refine⟨m,by omega,p++[to],by simp,?_,?_,by simp,by simp;omega,rfl⟩
    .exact EJ.mpr ⟨bX,by simp,λx hx y hy=>by simp at hy;subst hy;exact λe=>eK (e▸hx)⟩
    .intro x hx;rcases dT.mp hx with h|h
     .exact cj x h
     .simp at h;subst h;exact⟨fq,fu⟩
   .cases h3:r.orders[to.toNat].accepts<;>simp[h2,h3,nf]<;>omega
 .have hE:de r a q l=([],1):=by unfold de;rw[if_neg (by simp[h0,pW])]
  rw[hE];simp[h0,pW];rfl
def dk (f:File)(i:Int):Sign:=f.signs.getD i.toNat default
def fh (r:Realm)(forum:Int)(c:Case):List Int:=[forum,cQ r (dk c.file c.sign).city,cQ r c.file.bill.pay,cQ r c.file.bill.city,cQ r (r.firms.getD (dk c.file c.sign).who.toNat default).city]
def kD (r:Realm)(forum:Int)(c:Case):Prop:=(dk c.file c.sign).who<0\/(r.firms.length:Int)<=(dk c.file c.sign).who\/forum<0\/(r.orders.length:Int)<=forum
instance (r:Realm) (forum:Int) (c:Case):Decidable (kD r forum c):=by unfold kD;infer_instance
def gq (r:Realm)(forum:Int)(c:Case):List Int:=if kD r forum c then[] else if hasB (fh r forum c) (-1)=true then[] else fh r forum c
@[simp] def aKL (r:Realm)(x:Int):Bi (aR r) x=cQ r x:=by
  unfold Bi cQ aB;by_cases h:0<=x/\x<(r.cities.length:Int)
  .have hx:x.toNat<r.cities.length:=by omega
   rw[if_pos (by simpa using h),if_pos (by simpa using h)];simp[hx]
  .rw[if_neg (by simpa using h),if_neg (by simpa using h)]
def alB (r:Realm)(forum:Int)(c:Case)(h1:c.sign.toNat<c.file.signs.length):XC [aR r,.int forum,eF c]=ints (gq r forum c):=by
 have hs:dk c.file c.sign=c.file.signs[c.sign.toNat]:=by simp[dk,h1]
 unfold XC gq;simp[h1];by_cases hb:kD r forum c
 .rw[if_pos (by simpa [kD,hs] using hb),if_pos hb];rfl
 .rw[if_neg (by simpa [kD,hs] using hb),if_neg hb];have xk:(dk c.file c.sign).who.toNat<r.firms.length:=by unfold kD at hb;omega
  have ahB:c.file.signs[c.sign.toNat].who.toNat<r.firms.length:=by rw[<-hs];exact xk
  have kL:fh r forum c=[forum,cQ r c.file.signs[c.sign.toNat].city,cQ r c.file.bill.pay,cQ r c.file.bill.city,cQ r r.firms[c.file.signs[c.sign.toNat].who.toNat].city]:=by
   simp[fh,hs,ahB]
  have cY:∀l:List Int,hasB l (-1)=true↔-1∈l:=λl=>by simp[hasB]
  rw[kL];simp[ahB];split
  .rename_i h;rw[if_pos ((cY _).mpr (by simpa using h))];rfl
  .rename_i h;rw[if_neg (λh'=>h (by simpa using(cY _).mp h'))]
def aAD (r:Realm)(forum:Int)(c:Case)(h1:0<=c.sign/\c.sign<c.file.signs.length):ah T 128 [aR r,.int forum,eF c] (ints (gq r forum c)):=by
 have cu:c.sign.toNat<c.file.signs.length:=by omega
 rw[<-alB r forum c cu];have hs:dk c.file c.sign=c.file.signs[c.sign.toNat]:=by simp[dk,cu]
 refine ah.of_nsl rfl aDz aDA ?_;rw[alB r forum c cu];by_cases hb:kD r forum c
 .refine .inr ⟨by simp[gq,hb];rfl,?_⟩;have eh:=hb;simp[kD,hs] at eh;simp[QS,h1,cu]
  intros;omega
 have sA:gq r forum c=if hasB (fh r forum c) (-1)=true then[] else fh r forum c:=by unfold gq;rw[if_neg hb]
 have eh:=hb;simp[kD,hs] at eh;have hw:c.file.signs[c.sign.toNat].who.toNat<r.firms.length:=by omega
 have hC:=yL (fh r forum c) (-1) (by simp[fh]);cases hh:hasB (fh r forum c) (-1)<;>rw[hh] at hC<;>simp[fh,ints,hs,hw] at hC
 .refine .inl ⟨(fh r forum c).map .int,by simp[fh],by rw[sA,hh];rfl,?_⟩;simp[aap,h1,cu,hw];rw[if_neg (by omega)];refine⟨_,rJ r _,_,rJ r _,_,rJ r _,by omega,_,rJ r _,_,by simpa using hC,?_⟩;simp[fh,hs,hw]
 .refine .inr ⟨by rw[sA,hh];rfl,?_⟩;simp[QS,h1,cu,hw]
  intros
  refine⟨_,rJ r _,_,rJ r _,_,rJ r _,by omega,_,rJ r _,_,by simpa using hC,?_⟩;simp
structure Right (r:Realm):Prop where
 by_:yK r
 len:r.orders.length<=100000
 ok:∀o,o∈r.orders->o.OK/\o.rules.length<=100000
structure FewS (f:File):Prop where
 signs:f.signs.length<=1000
 alters:f.alters.length<=1000
 acts:f.acts.length<=1000
 facts:f.facts.length<=1000
def anV {α:Type}(p:α->Bool)(l:List α):(l.takeWhile p).length<=l.length:=by
 obtain⟨m,h1,h2,_⟩:=AW p l;rw[h2,eQ];omega
def FewS.at_ {f:File}(h:FewS f)(day:Int):FewS (aH f day):=
 ⟨jf (anV _ _) h.1,jf (tY _ _) h.2,jf (anV _ _) h.3,jf (tY _ _) h.4⟩
def bT (c:Case):Case:={c with file:=aH c.file c.day}
@[simp] def aKC (x:File)(a0 a1 a2 a3 a4 a5 a6 a7 a8 a9 ji ke jk kf kg ln lq ls l9:D)(s h d u y:Int):jl 24 (D.agg (dp [a0,a1,a2,a3,a4,a5,a6,a7,a8,a9,ji,ke,jk,kf,kg,ln,lq,ls,l9,.int s,.int h,.int d,.int u,.int y] 0 [.int x.bill.drawer,.int x.bill.drawee,.int x.bill.payee,.int x.bill.sum,.int x.bill.currency,.int x.bill.tenor.kind,.int x.bill.tenor.n,.int x.bill.tenor.unit,.int x.bill.day,.int x.bill.city,.int x.bill.pay,.int x.bill.need,.int x.bill.rate,.int x.bill.flags,.int x.bill.parts,signs x.signs,alters x.alters,acts x.acts,facts x.facts]))=eF ⟨x,s,h,d,u,y⟩:=zyw
def apI (r:Realm)(c:Case)(hf:FewS c.file):ah T 126 [aR r,eF c] (.tup [eF (bT c),cells (eA r (bT c))]):=by
 refine zyt 18 aDy ?_;simp[aao];have h1:=hf.1;have h2:=hf.2;have h3:=hf.3;have h4:=hf.4;refine⟨_,Qq c.file c.day (by omega) (by omega) (by omega) (by omega),?_⟩;have hfa:=hf.at_ c.day;have h5:=hfa.4;have h6:=hfa.2;simp;exact⟨aB3 r (bT c) (by show(aH c.file c.day).facts.length<=_;omega) (by show(aH c.file c.day).alters.length<=_;omega),(congrArg (jl 24) (aAl (bT c) _ _ _ _ _ _ _ _ _ _ _ _ _ _ _ _ _ _ _ _ _ _ _ _)).trans (apr (bT c))⟩
def adQ {r:Realm}{c:Case}(h:eA r c≠[]):0<=c.sign/\c.sign<c.file.signs.length:=by
 unfold eA at h;split at h
 .rename_i hh;have h1:=hh.1;unfold nT at h1;simp[aB] at h1;omega
 .exact absurd rfl h
def ah3 (r:Realm)(lD:yK r)(q:Int)(l:List Int)(hl:l.length<=100000)(mf:∀b:Int,0<=b->b<r.orders.length->jM r b q l=true):∀(n:Nat) (p:List Int),p≠[]->(∀x,x∈p->0<=x/\x<(r.orders.length:Int))->
 (iX r q l n p).1≠[]/\∀x,x∈(iX r q l n p).1->0<=x/\x<(r.orders.length:Int)
 |0,p,aI,hp=>⟨aI,hp⟩
 |n+1,p,aI,hp=>by
  have aq:p.length-1<p.length:=by have:=A9.mpr aI;omega
  have gZ:cB p=p[p.length-1]:=by simp[cB,aq]
  have oI:=hp _ (bR aq);rw[<-gZ] at oI;obtain⟨_,ht⟩:=Rt r lD (cB p) q l hl (mf _ oI.1 oI.2)
  have bm:∀x,x∈p++[(fy r (cB p) q l).1]->0<=x/\x<(r.orders.length:Int):=λx hx=>by
   rcases dT.mp hx with h|h
   .exact hp x h
   .simp at h;subst h;exact ht
  rw[Hj];split
  .exact⟨aI,hp⟩
  split
  .exact⟨by simp,bm⟩
  split
  .exact⟨by simp,bm⟩
  .exact ah3 r lD q l hl mf n _ (by simp) bm
def Oc {r:Realm}(hr:Right r){a q:Int}{l:List Int}(hl:l.length<=100000)(h:(de r a q l).2=0):(de r a q l).1≠[]/\0<=cB (de r a q l).1/\cB (de r a q l).1<r.orders.length:=by
 unfold de at h ⊢;split at h
 .rename_i hh;rw[if_pos hh];obtain⟨ha,wT,hx,mf⟩:=CN hh.1;obtain⟨h1,h2⟩:=ah3 r hr.by_ q l hl mf r.orders.length [a] (by simp) (λx hx=>by simp at hx;subst hx;exact ha);refine⟨h1,?_⟩;have aq:(iX r q l r.orders.length [a]).1.length-1<(iX r q l r.orders.length [a]).1.length:=by have:=A9.mpr h1;omega
  have gZ:cB (iX r q l r.orders.length [a]).1=(iX r q l r.orders.length [a]).1[(iX r q l r.orders.length [a]).1.length-1]:=by simp[cB,aq]
  rw[gZ];exact h2 _ (bR aq)
 .cases h
def ah4 (r:Realm)(q:Int)(l:List Int):∀(n:Nat) (p:List Int),(iX r q l n p).1.length<=p.length+n
 |0,p=>by simp[iX]
 |n+1,p=>by
  rw[Hj];split
  .simp
  split
  .simp
  split
  .simp
  .have:=ah4 r q l n (p++[(fy r (cB p) q l).1]);simp at this;omega
def ah2 (r:Realm)(a q:Int)(l:List Int):(de r a q l).1.length<=1+r.orders.length:=by
 unfold de;split
 .exact ah4 r q l _ [a]
 .simp
@[simp] def aOA (a b c d e x:D):dp [a,b,c,d,e] 2 [x]=[a,b,x,d,e]:=zyw
@[simp] def aOB (a b c d e x:D):dp [a,b,c,d,e] 3 [x]=[a,b,c,x,e]:=zyw
@[simp] def aOC (a b c d e x:D):dp [a,b,c,d,e] 4 [x]=[a,b,c,d,x]:=zyw
def Hy:Said:=⟨dj,-1,[],1⟩
def fg (r:Realm)(forum q:Int)(c:Case):Said×List Cell:=
 if eA r (bT c)=[] then(Hy,[]) else if(fi q).2=false then(Hy,[]) else if gq r forum (bT c)=[] then(Hy,[]) else
    (⟨dj,if(de r forum q (gq r forum (bT c))).2=0 then cB (de r forum q (gq r forum (bT c))).1 else-1,(de r forum q (gq r forum (bT c))).1,(de r forum q (gq r forum (bT c))).2⟩,eA r (bT c))
def alC (r:Realm)(forum:Int)(c:Case):(gq r forum c).length<=5:=by
 unfold gq;split
 .simp
 split<;>simp[fh]
def apH (r:Realm)(hr:Right r)(forum q:Int)(c:Case)(hf:FewS c.file):ah T 84 [aR r,.int forum,.int q,eF c] (.tup [jK (fg r forum q c).1,cells (fg r forum q c).2]):=by
 refine zyt 17 aDx ?_;simp[aan];refine⟨_,apI r c hf,?_⟩;by_cases hv:eA r (bT c)=[]
 .simp[hv,fg];exact⟨rfl,rfl⟩
 simp[hv,fg];refine⟨_,Xw q,?_⟩;cases hq:(fi q).2
 .simp[hq];exact⟨rfl,rfl⟩
 simp[hq];refine⟨_,aAD r forum (bT c) (adQ hv),?_⟩;by_cases hp:gq r forum (bT c)=[]
 .simp[hp];exact⟨rfl,rfl⟩
 have eL:=alC r forum (bT c);have aI:ints (gq r forum (bT c))≠.list []:=λe=>hp (by simpa [ints] using e);simp[hp];generalize gq r forum (bT c)=l at*;refine⟨_,aoX r hr.by_ hr.len forum q l (by omega),?_⟩;have hlen:=ah2 r forum q l;have uK:=Oc hr (a:=forum) (q:=q) (l:=l) (by omega);have hol:=hr.len;generalize de r forum q l=L at*;obtain⟨path,err⟩:=L;simp only at*;by_cases he:err=0
 .obtain⟨h1,h2⟩:=uK he;have zN:=A9.mpr h1;have zZ:i64.wrap ((path.length:Int)-1)=(path.length:Int)-1:=ax (by omega);have wV:((path.length:Int)-1).toNat=path.length-1:=by omega
  have aq:path.length-1<path.length:=by omega
  have gZ:cB path=path[path.length-1]:=by simp[cB,aq]
  simp[he,zZ,wV,aq,<-gZ];exact⟨by omega,rfl⟩
 .simp[he];rfl
def dH (r:Realm)(forum q:Int)(c:Case):Said:=
 if(fg r forum q c).1.order=-1 then(fg r forum q c).1
 else⟨(nR (iI r (fg r forum q c).1.order) q (fg r forum q c).2).1,(fg r forum q c).1.order,(fg r forum q c).1.path,(nR (iI r (fg r forum q c).1.order) q (fg r forum q c).2).2⟩
def apG {r:Realm}(hr:Right r)(forum q:Int)(c:Case):(fg r forum q c).1.order=-1\/(0<=(fg r forum q c).1.order/\(fg r forum q c).1.order<r.orders.length):=by
 unfold fg;split
 .exact .inl rfl
 split
 .exact .inl rfl
 split
 .exact .inl rfl
 .have eL:=alC r forum (bT c);have uK:=Oc hr (a:=forum) (q:=q) (l:=gq r forum (bT c)) (by omega);show(if _ then _ else _)=_\/_;split
  .rename_i h;exact .inr (uK h).2
  .exact .inl rfl
def R3 (r:Realm)(hr:Right r)(forum q:Int)(c:Case)(hf:FewS c.file):ah T 33 [aR r,.int forum,.int q,eF c] (jK (dH r forum q c)):=by
 refine zyt 16 aDs ?_;simp[aai];refine⟨_,apH r hr forum q c hf,?_⟩;have ho:=apG hr forum q c;unfold dH;generalize fg r forum q c=S at*;obtain⟨s,cs⟩:=S;simp only at*;by_cases h:s.order=-1
 .obtain⟨⟨kn,n⟩,o,pth,e⟩:=s;simp only at h;subst h;simp;rfl
 .have h1:0<=s.order/\s.order<r.orders.length:=by omega
  have h2:s.order.toNat<r.orders.length:=by omega
  have h3:iI r s.order=r.orders[s.order.toNat]:=by simp[iI,h2]
  obtain⟨aE,hlen⟩:=hr.ok _ (bR h2);simp[h,h1,h2,h3];refine⟨_,aAf _ q cs aE (by omega),?_⟩;simp;rfl
def fG (r:Realm)(forum q:Int)(f:File)(day:Int):Said:=dH r forum q ⟨{f with facts:=[]},0,-1,-1,-1,day⟩
def aeH (r:Realm)(hr:Right r)(forum q:Int)(f:File)(day:Int)(hf:FewS f):ah T 81 [aR r,.int forum,.int q,bQ f,.int day] (jK (fG r forum q f day)):=by
 refine zyt 15 aDt ?_;simp[aaj];refine⟨jK (fG r forum q f day),R3 r hr forum q ⟨{f with facts:=[]},0,-1,-1,-1,day⟩ ⟨hf.1,hf.2,hf.3,by simp⟩,?_⟩;simp
 try rfl
def gO (s:Said):Int:=if s.err≠0 then 0 else if s.cell.known=false then 2 else if s.cell.n≠0 then 1 else 0
def Kb (s:Said):ah T 35 [jK s] (.int (gO s)):=by
 refine zyt 56 aDw ?_;unfold gO;by_cases h1:s.err=0<;>cases h2:s.cell.known<;>by_cases h3:s.cell.n=0<;>simp[aam,h1,h2,h3]
def fT (s:Said):Int:=if s.err≠0\/s.cell.known=false then-1 else s.cell.n
def aeI (s:Said):ah T 32 [jK s] (.int (fT s)):=by
 refine zyt 58 aDv ?_;unfold fT;by_cases h1:s.err=0<;>cases h2:s.cell.known<;>simp[aal,h1,h2]
def jE (day:Int)(l:List Act)(es:List (D×D)):List (D×D):=l.foldl (λes a=>if a.kind=7/\a.day<=day then ez (.int a.at_) (.bool true) es else es) es
def aCV (day:Int)(l:List Act){k:Nat}(hk:k<l.length):jE day (l.take (k+1)) []=if l[k].kind=7/\l[k].day<=day then ez (.int l[k].at_) (.bool true) (jE day (l.take k) []) else jE day (l.take k) []:=by
 unfold jE;rw[gA hk,rX];rfl
def alF (k v:D):∀es:List (D×D),(ez k v es).length<=es.length+1
 |[]=>by simp[ez]
 |e::es=>by
  unfold ez;split
  .simp
  .have:=alF k v es;simp;omega
def anG (day:Int):∀(l:List Act) (es:List (D×D)),(jE day l es).length<=es.length+l.length
 |[],es=>by simp[jE]
 |a::l,es=>by
  have h:=anG day l (if a.kind=7/\a.day<=day then ez (.int a.at_) (.bool true) es else es);have hp:=alF (.int a.at_) (.bool true) es;show(jE day l (if a.kind=7/\a.day<=day then ez (.int a.at_) (.bool true) es else es)).length<=_;split at h
  .rename_i hc;rw[if_pos hc];simp;omega
  .rename_i hc;rw[if_neg hc];simp;omega
def aDj (f:File)(day:Int)(hl:f.acts.length<=100000):ah T 176 [bQ f,.int day] (.map (jE day f.acts [])):=by
 refine zyt 97 aGT ?_;simp[ads];refine aG.forRounds f.acts.length (λk=>[.int k]) (λk=>[.map (jE day (f.acts.take k) [])]) ?_ (λk hk=>?_) ?_
 .simp[jE]
 .have hw:=be hk (by omega);have hs:=aCV day f.acts hk;have hlen:=anG day (f.acts.take k) [];rw[hs];simp at hlen;generalize jE day (f.acts.take k) []=es at*;by_cases hc:f.acts[k].kind=7/\f.acts[k].day<=day
  .simp[ZK,Jk,hk,hw,hc];omega
  .simp[ZK,Jk,hk,hw,hc]
 .simp[ZK,Jk]
def alG {k v:D}:∀{es:List (D×D)} {e:D×D},e∈ez k v es->e.2=v\/e∈es
 |[],e,h=>by simp[ez] at h;exact .inl (by rw[h])
 |x::es,e,h=>by
  unfold ez at h;split at h
  .rcases dG.mp h with rfl|h
   .exact .inl rfl
   .exact .inr (by simp[h])
  .rcases dG.mp h with rfl|h
   .exact .inr (by simp)
   .rcases alG h with h|h
    .exact .inl h
    .exact .inr (by simp[h])
def anH (day:Int):∀(l:List Act) (es:List (D×D)),(∀e,e∈es->e.2=.bool true)->∀e,e∈jE day l es->e.2=.bool true
 |[],es,h,e,he=>h e he
 |a::l,es,h,e,he=>by
  refine anH day l (if a.kind=7/\a.day<=day then ez (.int a.at_) (.bool true) es else es) (λx hx=>?_) e he;split at hx
  .rcases alG hx with h'|h'
   .exact h'
   .exact h x h'
  .exact h x hx
def aia {k d:D}:∀{es:List (D×D)},eO k es=some d->∃e,e∈es/\e.2=d
 |x::es,h=>by
  unfold eO at h;split at h
  .exact⟨x,by simp,by simpa using h⟩
  .obtain⟨e,h1,h2⟩:=aia h;exact⟨e,by simp[h1],h2⟩
def aCU (day:Int)(l:List Act)(k:D):(eO k (jE day l [])).getD (.bool false)=.bool ((eO k (jE day l [])).getD (.bool false)).b:=by
 cases h:eO k (jE day l []) with
 |none=>rfl
 |some d=>
  obtain⟨e,h1,h2⟩:=aia h;have:=anH day l [] (λe h=>by cases h) e h1;rw[h2] at this;rw[this];rfl
def rR (f:File)(sign day:Int):Bool:=aB sign f.signs.length&&((eO (.int sign) (jE day f.acts [])).getD (.bool false)).b
def aDi (f:File)(sign day:Int)(hl:f.acts.length<=100000):ah T 113 [bQ f,.int sign,.int day] (.bool (rR f sign day)):=by
 refine zyt 96 aGS ?_;by_cases h1:0<=sign<;>by_cases h2:sign<f.signs.length<;>simp[adr,h1,h2,rR,aB];refine⟨_,aDj f day hl,?_⟩;exact aCU day f.acts (.int sign)
def ky (f:File)(sign:Int)(n:Nat):Int:=(f.alters.take n).foldl (λs a=>if a.at_<=sign then a.sum else s) f.bill.sum
def aAr (f:File)(sign:Int)(hl:f.alters.length<=100000):ah T 177 [bQ f,.int sign] (.int (ky f sign f.alters.length)):=by
 refine zyt 101 aEc ?_;simp[aaZ];refine aG.forRounds f.alters.length (λk=>[.int (ky f sign k),.int k]) (λk=>[]) ?_ (λk hk=>?_) ?_
 .simp[ky]
 .have hw:=be hk (by omega);have hs:ky f sign (k+1)=if f.alters[k].at_<=sign then f.alters[k].sum else ky f sign k:=by
   unfold ky;rw[gA hk,rX];rfl
  rw[hs];generalize ky f sign k=s at*;by_cases hc:f.alters[k].at_<=sign<;>simp[amK,PM,hk,hw,hc]
 .simp[amK,PM]
def Du (r:Realm)(c:Int):ah T 120 [aR r,.int c] (.bool (aB c r.cities.length)):=by
 refine zyt 78 aGB ?_;by_cases h1:0<=c<;>by_cases h2:c<r.cities.length<;>simp[ac9,h1,h2,aB]
def bA (n:Int):Bool:=decide (0<=n)&&decide (n<=100000)
def xp (n:Int):ah T 121 [.int n] (.bool (bA n)):=by
 refine zyt 79 aGC ?_;by_cases h1:0<=n<;>by_cases h2:n<=100000<;>simp[ada,h1,h2,bA]
def yx (n:Int):ah T 215 [.int n] (.bool (bA n)):=by
 refine zyt 84 aDR ?_;by_cases h1:0<=n<;>by_cases h2:n<=100000<;>simp[aaF,h1,h2,bA]
def rP (t:Tenor):Bool:=decide (t.kind=0)||decide (t.kind=1)
def ER (t:Tenor):ah T 122 [lx t] (.bool (rP t)):=by
 refine zyt 80 aGA ?_;by_cases h1:t.kind=0<;>simp[ac8,h1,rP]
def aiT (y m d:Int):∃n:Int,ah T 268 [.int y,.int m,.int d] (.int n):=by
 by_cases h:m<3
 .refine⟨?w,?h⟩
  case h=>
   refine ah.of_tree (d:=.int ?w) rfl R5 aaD ?_;simp[Eo,h];exact rfl
 .refine⟨?v,?g⟩
  case g=>
   refine ah.of_tree (d:=.int ?v) rfl R5 aaD ?_;simp[Eo,h];exact rfl
def Ar (y m d:Int):Int:=(aiT y m d).choose
def DI (y m d:Int):ah T 268 [.int y,.int m,.int d] (.int (Ar y m d)):=(aiT y m d).choose_spec
def uZ (y m:Int):Int:=if m=12 then 31 else i64.wrap (Ar y (i64.wrap (m+1)) 1-Ar y m 1)
def Dz (y m:Int):ah T 243 [.int y,.int m] (.int (uZ y m)):=by
 refine zyt 86 aDP ?_;unfold uZ;by_cases h:m=12
 .simp[QV,h]
 .simp[QV,h];refine⟨_,DI _ _ _,_,DI _ _ _,?_⟩;simp
def aoM (y m d:Int):∃n e:Int,ah T 242 [.int y,.int m,.int d] (.tup [.int n,.int e])/\(e=0->0<=n/\n<=100000):=by
 by_cases h0:(((2000<=y/\y<=2300)/\1<=m)/\m<=12)/\1<=d
 .by_cases h2:d<=uZ y m
  .cases h1:bA (Ar y m d)
   .refine⟨0,3,.of_tree rfl E4 JC ?_,by simp⟩;simp[ym];rw[if_pos h0];refine⟨_,Dz y m,?_⟩;simp[h0,h2];refine⟨_,DI _ _ _,_,yx _,?_⟩;simp[h1]
   .refine⟨Ar y m d,0,.of_tree rfl E4 JC ?_,λ_=>by simpa [bA] using h1⟩;simp[ym];rw[if_pos h0];exact⟨_,Dz y m,⟨h0,h2⟩,_,DI _ _ _,_,yx _,h1,rfl⟩
  .refine⟨0,3,.of_tree rfl E4 JC ?_,by simp⟩;simp[ym];rw[if_pos h0];refine⟨_,Dz y m,?_⟩;simp[h0,h2]
 .refine⟨0,3,.of_tree rfl E4 JC ?_,by simp⟩;simp[ym];rw[if_neg h0];intro a1 a2 a3 a4 a5;exact absurd ⟨⟨⟨⟨a1,a2⟩,a3⟩,a4⟩,a5⟩ h0
def aew (r:Realm)(fr to:Int)(hl:r.usances.length<=100000):∃n e:Int,ah T 106 [aR r,.int fr,.int to] (.tup [.int n,.int e])/\(e=0->∃u,u∈r.usances/\n=u.days)/\(e=0↔∃u,u∈r.usances/\u.fr=fr/\u.to=to):=by
 let p:Usance->Bool:=λu=>decide (u.fr=fr)&&decide (u.to=to)
 refine⟨match r.usances.find? p with|some u=>u.days|none=>0,match r.usances.find? p with|some u=>0|none=>4,?_,?_⟩
 .refine .of_tree rfl aeN anQ ?_;simp[Q9];refine aG.scan r.usances.length (λk=>p (r.usances.getD k default)=false) (λk=>[.int 0,.int 0,.int k]) (λ_=>[]) ?_ (λk hk hj aE=>?_) (λk hk hj aE=>?_) (λhj=>?_)
  .simp
  .have hw:=be hk (by omega);have hn:¬(r.usances[k].fr=fr/\r.usances[k].to=to):=by simpa [p,hk] using aE
   simp[D8,xZ,hk,hw,hn]
  .have dM:=qV hk (by simpa [hk] using aE) (λj br=>by have:=hj j br;simpa [show j<r.usances.length by omega] using this);have hc:r.usances[k].fr=fr/\r.usances[k].to=to:=by simpa [p,hk] using aE
   rw[dM];simp[D8,xZ,hk,hc]
  .have dM:=sw (l:=r.usances) (p:=p) (λj br=>by have:=hj j br;simpa [br] using this);rw[dM];simp[D8,xZ]
 .cases h:r.usances.find? p with
  |none=>
   refine⟨λh=>(by cases h),λh=>(by cases h),λ⟨u,hu,h1,h2⟩=>?_⟩;have:=tV.1 h u hu;simp[p,h1,h2] at this
  |some u=>
   have h2:u.fr=fr/\u.to=to:=by simpa [p] using Rw h
   exact⟨λ_=>⟨u,Bc h,rfl⟩,λ_=>⟨u,Bc h,h2⟩,λ_=>rfl⟩
def apf (r:Realm)(fr to:Int)(hl:r.usances.length<=100000):∃n e:Int,ah T 106 [aR r,.int fr,.int to] (.tup [.int n,.int e])/\(e=0->∃u,u∈r.usances/\n=u.days):=by
 obtain⟨n,e,h1,h2,_⟩:=aew r fr to hl;exact⟨n,e,h1,h2⟩
def ae8 (R Y:Int)(hR:0<=R/\R<146097)(h1:365*Y<=R-R/1460+R/36524-R/146096)(h2:R-R/1460+R/36524-R/146096<365*Y+365):0<=R-(365*Y+Y/4-Y/100)/\R-(365*Y+Y/4-Y/100)<=500:=by
 have k0:R/36524<=R/1460:=by omega
 have k1:Y/4<=R/1460:=by omega
 have hY:0<=Y:=by omega
 have hc:R/36524=0\/R/36524=1\/R/36524=2\/R/36524=3\/R/36524=4:=by omega
 have k2:25*(R/36524)<=R/1460:=by omega
 refine⟨?_,?_⟩
 .rcases Int.lt_or_le Y (100*(R/36524)) with hy|hy
  .have k3:Y/4<=25*(R/36524)-1:=by omega
   have k4:R/36524-1<=Y/100:=by omega
   omega
  .have k3:R/36524<=Y/100:=by omega
   omega
 .omega
def Tu (n:Int)(h:0<=n/\n<=100400):ah T 241 [.int n] (.tup [.int (bF n).1,.int (bF n).2.1,.int (bF n).2.2]):=by
 refine zyt 85 aDM ?_;have w:∀x:Int,-1000000000<=x->x<=1000000000->i64.wrap x=x:=λx a b=>ax (by omega);have t:∀x y:Int,0<=x->x.tdiv y=x/y:=λx y hx=>l6 hx;have u:∀x y:Int,0<=x->x.tmod y=x%y:=λx y hx=>nJ hx;simp[aaA];unfold bF;simp only[];rw[w (n+730425) (by omega) (by omega),u (n+730425) 146097 (by omega),t (n+730425) 146097 (by omega)];have hR:0<=(n+730425)%146097/\(n+730425)%146097<146097:=by omega
 have hE:0<=(n+730425)/146097/\(n+730425)/146097<100:=by omega
 generalize (n+730425)%146097=R at*;generalize (n+730425)/146097=e at*;rw[t R 1460 (by omega),t R 36524 (by omega),t R 146096 (by omega),w (R/1460) (by omega) (by omega),w (R-R/1460) (by omega) (by omega),w (R/36524) (by omega) (by omega),w (R-R/1460+R/36524) (by omega) (by omega),w (R/146096) (by omega) (by omega),w (R-R/1460+R/36524-R/146096) (by omega) (by omega),t (R-R/1460+R/36524-R/146096) 365 (by omega)];have hY:0<=(R-R/1460+R/36524-R/146096)/365/\(R-R/1460+R/36524-R/146096)/365<400:=by omega
 have hD:0<=R-(365*((R-R/1460+R/36524-R/146096)/365)+(R-R/1460+R/36524-R/146096)/365/4-(R-R/1460+R/36524-R/146096)/365/100)/\R-(365*((R-R/1460+R/36524-R/146096)/365)+(R-R/1460+R/36524-R/146096)/365/4-(R-R/1460+R/36524-R/146096)/365/100)<=500:=by
  exact ae8 R _ hR (by omega) (by omega)
 generalize (R-R/1460+R/36524-R/146096)/365=Y at*;rw[w Y (by omega) (by omega),w (365*Y) (by omega) (by omega),t Y 4 (by omega),t Y 100 (by omega),w (Y/4) (by omega) (by omega),w (Y/100) (by omega) (by omega),w (365*Y+Y/4) (by omega) (by omega),w (365*Y+Y/4-Y/100) (by omega) (by omega),w (R-(365*Y+Y/4-Y/100)) (by omega) (by omega)];generalize R-(365*Y+Y/4-Y/100)=D at*;rw[w (5*D) (by omega) (by omega),w (5*D+2) (by omega) (by omega),t (5*D+2) 153 (by omega)];have hM:0<=(5*D+2)/153/\(5*D+2)/153<=20:=by omega
 generalize (5*D+2)/153=M at*;rw[w M (by omega) (by omega),w (M+3) (by omega) (by omega),w (M+3-12) (by omega) (by omega),w e (by omega) (by omega),w (400*e) (by omega) (by omega),w (Y+400*e) (by omega) (by omega),w (Y+400*e+1) (by omega) (by omega)];rw[w (153*M) (by omega) (by omega),w (153*M+2) (by omega) (by omega),t (153*M+2) 5 (by omega),w ((153*M+2)/5) (by omega) (by omega),w (D-(153*M+2)/5) (by omega) (by omega),w (D-(153*M+2)/5+1) (by omega) (by omega)];refine⟨?_,?_,rfl⟩
 .generalize (if 12<M+3 then M+3-12 else M+3)=m;split<;>rfl
 .split<;>rfl
def aoF (d n:Int):∃x e:Int,ah T 214 [.int d,.int n] (.tup [.int x,.int e])/\(e=0->0<=x/\x<=100000):=by
 by_cases h0:bA d=true/\-5000<=n/\n<=5000
 .have hd:0<=d/\d<=100400:=by have:=h0.1;simp[bA] at this;omega
  obtain⟨A,hA⟩:∃A,A=i64.wrap (i64.wrap (i64.wrap (i64.wrap (12*(bF d).1)+(bF d).2.1)-1)+n):=⟨_,rfl⟩
  obtain⟨Y,hY⟩:∃Y,Y=i64.wrap (A.tdiv 12):=⟨_,rfl⟩
  obtain⟨M,hM⟩:∃M,M=i64.wrap (A.tmod 12+1):=⟨_,rfl⟩
  obtain⟨x,e,hD,hb⟩:=aoM Y M (if uZ Y M<(bF d).2.2 then uZ Y M else(bF d).2.2);refine⟨x,e,.of_tree rfl Kd QU ?_,hb⟩;have n1:¬n< -5000:=by omega
  have n2:¬5000<n:=by omega
  simp[En,n1,n2];refine⟨_,yx d,?_⟩;simp[h0.1];refine⟨_,Tu d hd,?_⟩;simp[<-hA,<-hY,<-hM];refine⟨_,Dz Y M,?_⟩;by_cases hl:uZ Y M<(bF d).2.2
  .simp only[if_pos hl] at hD;simp[hl];refine⟨_,hD,?_⟩;simp
  .simp only[if_neg hl] at hD;simp[hl];refine⟨_,hD,?_⟩;simp
 .refine⟨0,3,.of_tree rfl Kd QU ?_,by simp⟩;simp[En];refine⟨_,yx d,?_⟩;simp;intro a b c;exact absurd ⟨a,b,c⟩ h0
def Uk (l:List Int)(x:Int):hasB l x=l.contains x:=by
 rw[tP];simp[hasB]
def yh (c:City):Prop:=c.rest.length<=100000/\c.feasts.length<=100000/\c.shut.length<=100000
def aqq (n:Int)(h:0<=n/\n<=100400):(0<=(bF n).2.1/\(bF n).2.1<=30)/\-1000<=(bF n).2.2/\(bF n).2.2<=1000:=by
 unfold bF;simp only[];have hR:0<=(n+730425)%146097/\(n+730425)%146097<146097:=by omega
 generalize (n+730425)%146097=R at*;have hD:=ae8 R ((R-R/1460+R/36524-R/146096)/365) hR (by omega) (by omega);generalize (R-R/1460+R/36524-R/146096)/365=Y at*;generalize R-(365*Y+Y/4-Y/100)=D at*;have hM:0<=(5*D+2)/153/\(5*D+2)/153<=20:=by omega
 generalize (5*D+2)/153=M at*;refine⟨?_,by omega,by omega⟩;split<;>omega
def aAb (c:City)(hc:yh c)(n:Int)(h:0<=n/\n<=100400):ah T 245 [ga c,.int n] (.bool (np c.rest c.feasts c.shut n)):=by
 refine zyt 94 aDQ ?_;simp[aaE];refine⟨_,Tu n h,?_⟩;have w5:i64.wrap (n+5)=n+5:=ax (by omega);have m7:(n+5).tmod 7=(n+5)%7:=nJ (by omega);obtain⟨h1,h2,h3⟩:=hc;simp[w5,m7];refine⟨_,yL c.rest ((n+5)%7) (by omega),?_⟩;unfold np;rw[<-Uk];cases hr:hasB c.rest ((n+5)%7)
 .obtain⟨iQ,eI⟩:=aqq n h;have wm:i64.wrap (100*(bF n).2.1)=100*(bF n).2.1:=ax (by omega);have wd:i64.wrap (100*(bF n).2.1+(bF n).2.2)=100*(bF n).2.1+(bF n).2.2:=ax (by omega);simp[hr,wm,wd];refine⟨_,yL c.feasts _ (by omega),?_⟩;have e1:=Uk c.feasts (100*(bF n).2.1+(bF n).2.2);have e2:=Uk c.shut n;simp at e1 e2;cases hf:hasB c.feasts (100*(bF n).2.1+(bF n).2.2)
  .simp[hf,<-e1,<-e2];exact⟨_,yL c.shut n (by omega),rfl⟩
  .simp[hf,<-e1]
 .simp[hr]
def eg (c:City)(a:Int)(k:Nat):List Int:=((List.range k).map λ(i:Nat)=>a+i).filter (np c.rest c.feasts c.shut)
def afi (c:City)(a:Int)(k:Nat):eg c a (k+1)=eg c a k++if np c.rest c.feasts c.shut (a+k) then[a+k] else[]:=by
 unfold eg;rw[aek,vP,List.filter_append]
 congr 1
 cases h:np c.rest c.feasts c.shut (a+k)<;>simp[h]
def aqI (c:City)(a:Int){k n:Nat}(h:k<=n):∃r,eg c a n=eg c a k++r:=by
 induction n with
 |zero=>obtain rfl:k=0:=by omega
        exact⟨[],by simp⟩
 |succ n ih=>
  by_cases e:k=n+1
  .subst e;exact⟨[],by simp⟩
  .obtain⟨r,hr⟩:=ih (by omega);exact⟨r++_,by rw[afi,hr,qD]⟩
def sr (d:Int):D:=.tup [.int d]
def aqJ (c:City)(a b:Int):afk [.ref (.int a),.ref (.int b),.ref (ga c)]=(eg c a (b-a+1).toNat).map sr:=by
 have hi:∀l:List Int,Ad (ints l)=l:=λl=>by
  show(l.map D.int).map D.i=l;rw[Ry];exact List.map_id l
 show(afj (Ad (ints c.rest)) (Ad (ints c.feasts)) (Ad (ints c.shut)) a b).map _=_;rw[hi,hi,hi];rfl
def aqG (c:City)(hc:yh c)(a b:Int)(ha:0<=a)(hb:b<=100400)(zx:a<=100400):ah T 244 [.ref (.int a),.ref (.int b),.ref (ga c)] (.list ((eg c a (b-a+1).toNat).map sr)):=by
 have xf:=aqJ c a b;rw[<-xf];obtain⟨N,hN⟩:∃N,N=(b-a+1).toNat:=⟨_,rfl⟩
 refine ah.of_it (pc:=(ab uo)) (J:=1000) (k:=1) rfl (λx hx=>?_) (λm hm=>?_)
 .rw[xf] at hx;obtain⟨i,_,rfl⟩:=fF.1 hx;exact⟨_,rfl,rfl⟩
 .rw[xf] at hm ⊢;rw[<-hN] at hm ⊢;refine Rb ?_;rw[aDN];simp[aaC];refine aG.forLoop (α:=Nat) (λk vr vo=>k<=N/\vr=[.int (a+k)]/\vo=[.list ((eg c a k).map sr)]/\(eg c a k).length<=m) (λk=>N-k) 0 ?_ ?_
  .simp[arN,eg]
  .rintro k vr vo ⟨hk,rfl,rfl,kJ⟩;by_cases aq:k<N
   .have hle:a+(k:Int)<=b:=by omega
    have gn:i64.wrap (a+(k:Int)+1)=a+((k+1:Nat):Int):=by rw[ax (by omega)];omega
    have dB:=(aAb c hc (a+k) (by omega))
    have xg:=afi c a k;obtain⟨r,hr⟩:=aqI c a (k:=k+1) (n:=N) aq;simp[amJ,PL,hle];refine⟨_,dB.yld (by decide),?_⟩;cases hi:np c.rest c.feasts c.shut (a+k)
    .simp[hi] at xg ⊢;exact⟨k+1,by omega,by omega,gn,by rw[xg],by rw[xg];exact kJ⟩
    .simp[hi] at xg ⊢;have hlen:(eg c a (k+1)).length=(eg c a k).length+1:=by rw[xg];simp
     have G4:(eg c a k).map sr++[D.tup [D.int (a+k)]]=(eg c a (k+1)).map sr:=by rw[xg,vP];rfl
     have G1:(eg c a (k+1)).map sr=((eg c a N).map sr).take ((eg c a k).length+1):=by
      rw[hr,vP,List.take_append_of_le_length (by simp[hlen]),EK (by simp[hlen])]
     have bG:(eg c a k).length<((eg c a N).map sr).length:=by rw[hr];simp[hlen];omega
     rw[G4];refine⟨_,ah.answer G1 bG kJ,?_⟩;by_cases lH:(eg c a k).length<m
     .simp[lH];exact⟨k+1,by omega,by omega,gn,rfl,by omega⟩
     .obtain rfl:(eg c a k).length=m:=by omega
      simp;rw[G1]
   .obtain rfl:k=N:=by omega
    have hle:¬a+(k:Int)<=b:=by omega
    simp[amJ,PL,hle];rw[EK (by simp;omega)]
def aqK (c:City)(a b:Int):ah T 216 [ga c,.int a,.int b] (.clo 244 [.ref (.int a),.ref (.int b),.ref (ga c)]):=by
 refine zyt 93 aDO ?_;simp[aaB]
def kG (d:Int):Int:=if 100000<d+400 then 100000 else d+400
def da (c:City)(d:Int):Int×Int:=
 if bA d=false then(0,3) else match eg c d (kG d-d+1).toNat with|[]=>(0,3)|x::_=>(x,0)
def aqH {c:City}{a:Int}{k:Nat}{x:Int}(h:x∈eg c a k):a<=x/\x<a+k:=by
 unfold eg at h;obtain⟨h1,_⟩:=gz.mp h;obtain⟨i,hi,rfl⟩:=fF.mp h1;have:=gR.mp hi;omega
def Ot {c:City}{d:Int}(h:(da c d).2=0):bA d=true/\d<=(da c d).1/\(da c d).1<=100000:=by
 unfold da at h ⊢;cases hd:bA d
 .simp[hd] at h
 .simp only[hd] at h ⊢;cases hk:eg c d (kG d-d+1).toNat with
  |nil=>rw[hk] at h;simp at h
  |cons x l=>
   have hm:x∈eg c d (kG d-d+1).toNat:=by rw[hk];simp
   have:=aqH hm;have he:kG d<=100000:=by unfold kG;split<;>omega
   simp[bA] at hd;simp;unfold kG at*;omega
def apa (c:City)(hc:yh c)(d:Int):ah T 183 [ga c,.int d] (.tup [.int (da c d).1,.int (da c d).2]):=by
 refine zyt 92 aDL ?_;simp[aaz];refine⟨_,yx d,?_⟩;cases hd:bA d
 .simp[da,hd]
 have fo:0<=d/\d<=100000:=by simpa [bA] using hd
 have hw:i64.wrap (d+400)=d+400:=ax (by omega);have he:kG d<=100000:=by unfold kG;split<;>omega
 simp[hd,hw];have hE:(if 100000<d+400 then D.int 100000 else D.int (d+400))=D.int (kG d):=by unfold kG;split<;>rfl
 rw[hE];refine⟨_,aqK c d (kG d),_,_,rfl,_,aqG c hc d (kG d) fo.1 (by omega) (by omega),?_⟩;cases hk:eg c d (kG d-d+1).toNat with
 |nil=>
  have hn:da c d=(0,3):=by unfold da;simp[hd,hk]
  rw[hn];refine aG.eachR [] (by simp) (λ_ vo=>vo=[.agg [.int 0],.agg [.int 0]]) ?_ (λk x vo hx hi=>by simp at hx) (λvo hi=>?_)
  .simp
  .subst hi;simp
 |cons x l=>
  have hn:da c d=(x,0):=by unfold da;simp[hd,hk]
  rw[hn];refine aG.eachR ((x::l).map sr) (by simp) (λk vo=>k=0/\vo=[.agg [.int 0],.agg [.int 0]]) ?_ (λk y vo hx hi=>?_) (λvo hi=>?_)
  .simp
  .obtain⟨rfl,rfl⟩:=hi;simp at hx;subst hx;simp[aBO,Yw,sr];rfl
  .exact absurd hi.1 (by simp)
def yg (o:Int)(d:Int)(h:Halt):Int:=if(h.order=o/\h.fr<=d)/\d<=h.to then h.to+1 else d
def fP (r:Realm)(o d:Int)(k:Nat):Int:=(r.halts.take k).foldl (yg o) d
def QH (r:Realm)(o d:Int){k:Nat}(hk:k<r.halts.length):fP r o d (k+1)=yg o (fP r o d k) r.halts[k]:=by
 unfold fP;rw[gA hk,rX];rfl
def j5 (r:Realm):Prop:=r.halts.length<=100000/\∀h,h∈r.halts->0<=h.fr/\h.to<=100000
def QG {r:Realm}(hh:j5 r)(o d:Int)(hd:d<=100001):∀k,k<=r.halts.length->d<=fP r o d k/\fP r o d k<=100001
 |0,_=>⟨by simp[fP],by simpa [fP] using hd⟩
 |k+1,hk=>by
  obtain⟨h1,h2⟩:=QG hh o d hd k (by omega);rw[QH r o d (by omega)];have:=hh.2 _ (bR (show k<r.halts.length by omega));unfold yg;split<;>omega
def tF (r:Realm)(o:Int):Nat->Int->Int
 |0,d=>d
 |n+1,d=>if fP r o d r.halts.length=d then d else tF r o n (fP r o d r.halts.length)
def ed (r:Realm)(o d:Int):Int:=tF r o (100002-d).toNat d
def Z3 {r:Realm}(hh:j5 r)(o:Int):∀(n:Nat) (d:Int),d<=100001->d<=tF r o n d/\tF r o n d<=100001
 |0,d,hd=>⟨tT _,hd⟩
 |n+1,d,hd=>by
  obtain⟨h1,h2⟩:=QG hh o d hd r.halts.length (bL _);unfold tF;split
  .omega
  .have:=Z3 hh o n _ h2;omega
def aCP (r:Realm)(hh:j5 r)(o d:Int)(h0:0<=d)(hd:d<=100001):ah T 182 [aR r,.int o,.int d] (.int (ed r o d)):=by
 refine zyt 91 aGE ?_;simp[ade];refine aG.forLoop (α:=Int×Bool×Nat) (λs vr vo=>vr=[.int s.1,.bool s.2.1]/\vo=[]/\d<=s.1/\s.1<=100001/\(s.2.1=true->(100002-s.1).toNat<=s.2.2)/\(s.2.1=true->tF r o s.2.2 s.1=ed r o d)/\(s.2.1=false->s.1=ed r o d)) (λs=>2*(100001-s.1).toNat+(if s.2.1 then 1 else 0)) (d,true,(100002-d).toNat) ?_ ?_
 .simp;exact⟨by omega,rfl⟩
 .rintro⟨e,ch,n⟩ vr vo ⟨rfl,rfl,h1,h2,h3,h4,h5⟩;simp only at*;cases ch
  .simp[am9,Qm];exact h5 rfl
  .have h3:=h3 rfl;have h4:=h4 rfl;obtain⟨n,rfl⟩:∃m,n=m+1:=⟨n-1,by omega⟩
   have cj:=QG hh o e h2;simp[am9,Qm];refine aG.forRounds r.halts.length (λk=>[.int (fP r o e k),.bool (decide (e<fP r o e k)),.int k]) (λ_=>[]) ?_ (λk hk=>?_) ?_
   .simp[fP]
   .have hw:=be hk (by have:=hh.1;omega);have dq:=cj k (by omega);have nf:=hh.2 _ (bR hk);rw[QH r o e hk];unfold yg;generalize fP r o e k=x at*;by_cases hc:(r.halts[k].order=o/\r.halts[k].fr<=x)/\x<=r.halts[k].to
    .have cl:i64.wrap (r.halts[k].to+1)=r.halts[k].to+1:=ax (by omega);simp[Ql,Eb,hk,hw,hc,cl];omega
    .simp[Ql,Eb,hk,hw,hc]
   .have hE:=cj r.halts.length (bL _);unfold tF at h4;generalize fP r o e r.halts.length=x at*;by_cases hx:x=e
    .rw[if_pos hx] at h4;subst hx;simp[Ql,Eb];exact⟨x,by omega,rfl,h1,h2,h4⟩
    .rw[if_neg hx] at h4;have aq:e<x:=by omega
     simp[Ql,Eb,aq];exact⟨x,by omega,rfl,by omega,by omega,n,by omega,h4⟩
def qx (r:Realm)(c:City)(o:Int):Nat->Int->Int×Int
 |0,d=>(d,0)
 |n+1,d=>
  if(da c (ed r o d)).2≠0 then(0,3)
  else if(da c (ed r o d)).1=ed r o d then(ed r o d,0)
  else qx r c o n (da c (ed r o d)).1
def AR (r:Realm)(c:City)(o:Int)(n:Nat)(d:Int):qx r c o (n+1) d=
 if(da c (ed r o d)).2≠0 then(0,3)
 else if(da c (ed r o d)).1=ed r o d then(ed r o d,0)
 else qx r c o n (da c (ed r o d)).1:=rfl
def nD (r:Realm)(city d:Int):Int×Int:=qx r (r.cities.getD city.toNat default) (cQ r city) (100002-d).toNat d
def ZX (r:Realm)(hh:j5 r)(city d:Int)(hc:0<=city/\city<r.cities.length)(hs:∀c,c∈r.cities->yh c)(h0:0<=d)(hd:d<=100001):ah T 124 [aR r,.int city,.int d] (.tup [.int (nD r city d).1,.int (nD r city d).2]):=by
 refine zyt 90 aGD ?_;simp[adb];refine⟨_,rJ r city,?_⟩;have bG:city.toNat<r.cities.length:=by omega
 have Ut:r.cities.getD city.toNat default=r.cities[city.toNat]:=by simp[bG]
 have Vl:=hs _ (bR bG);have hF:nD r city d=qx r r.cities[city.toNat] (cQ r city) (100002-d).toNat d:=by unfold nD;rw[Ut]
 rw[hF];refine aG.forLoop (α:=Int×Nat) (λs vr vo=>(∃a b,vr=[.int s.1,a,b])/\vo=[]/\0<=s.1/\s.1<=100001/\(100002-s.1).toNat<=s.2/\qx r r.cities[city.toNat] (cQ r city) s.2 s.1=qx r r.cities[city.toNat] (cQ r city) (100002-d).toNat d) (λs=>s.2) (d,(100002-d).toNat) ?_ ?_
 .simp;omega
 .rintro⟨e,n⟩ vr vo ⟨⟨a,b,rfl⟩,rfl,h1,h2,h3,h4⟩;simp only at*;obtain⟨n,rfl⟩:∃m,n=m+1:=⟨n-1,by omega⟩
  rw[<-h4];have NX:=Z3 hh (cQ r city) (100002-e).toNat e h2;have hsr:=aCP r hh (cQ r city) e h1 h2;rw[AR];change e<=ed r (cQ r city) e/\ed r (cQ r city) e<=100001 at NX;generalize ed r (cQ r city) e=x at*;have Df:=apa r.cities[city.toNat] Vl x;have oM:=Ot (c:=r.cities[city.toNat]) (d:=x);generalize da r.cities[city.toNat] x=N at*;obtain⟨y,er⟩:=N;simp only at Df oM;simp[aBU,ZG];refine⟨_,hsr,?_⟩;simp[bG,hc];refine⟨_,Df,?_⟩;by_cases he:er=0
  .obtain⟨g1,g2,g3⟩:=oM he;by_cases hy:y=x
   .simp[he,hy]
   .simp[he,hy];exact⟨y,n,by omega,rfl,by omega,by omega,by omega,rfl⟩
  .simp[he]
structure RightD (r:Realm):Prop where
 small:Small r
 halts:j5 r
def RightD.cities {r:Realm}(h:RightD r)(c:City)(hc:c∈r.cities):yh c:=by
 obtain⟨h1,h2,h3,_⟩:=h.small.city c hc;exact⟨by omega,by omega,by omega⟩
def EZ (d:Int)(t:Tenor):∃n e:Int,ah T 180 [.int d,lx t] (.tup [.int n,.int e]):=by
 by_cases h0:t.n<0
 .refine⟨0,3,.of_tree rfl we yr ?_⟩;simp[tJ,h0]
 by_cases h1:20000<t.n
 .refine⟨0,3,.of_tree rfl we yr ?_⟩;simp[tJ,h0,h1]
 by_cases h2:t.unit=1
 .obtain⟨n,e,h,_⟩:=aoF d t.n;refine⟨n,e,.of_tree rfl we yr ?_⟩;simp[tJ,h0,h1,h2];refine⟨_,h,?_⟩;simp
 .refine⟨i64.wrap (d+t.n),0,.of_tree rfl we yr ?_⟩;simp[tJ,h0,h1,h2]
def apW (r:Realm)(hr:RightD r)(b:Bill)(seen:Int):∃n e:Int,ah T 123 [aR r,dc b,.int seen] (.tup [.int n,.int e]):=by
 have N0:D.agg [D.int b.tenor.kind,D.int b.tenor.n,D.int b.tenor.unit]=lx b.tenor:=rfl;by_cases h0:b.tenor.kind=0
 .refine⟨seen,0,.of_tree rfl yV AU ?_⟩;simp[pD,h0]
 by_cases h1:b.tenor.kind=1
 .obtain⟨n,e,h⟩:=EZ seen b.tenor;refine⟨n,e,.of_tree rfl yV AU ?_⟩;have cu:(b.tenor.kind=1)=True:=eq_true h1;simp[pD,h0,cu];refine⟨_,h,?_⟩;simp
 by_cases h2:b.tenor.kind=2
 .obtain⟨n,e,h⟩:=EZ b.day b.tenor;refine⟨n,e,.of_tree rfl yV AU ?_⟩;have gf:(b.tenor.kind=2)=True:=eq_true h2;simp[pD,h0,h1,gf];refine⟨_,h,?_⟩;simp
 by_cases h4:b.tenor.kind=4
 .obtain⟨n,e,h,_⟩:=apf r b.city b.pay (by have:=hr.small.us;omega);refine⟨i64.wrap (b.day+n),e,.of_tree rfl yV AU ?_⟩;have kI:(b.tenor.kind=4)=True:=eq_true h4;simp[pD,h0,h1,h2,kI];refine⟨_,h,?_⟩;simp
 .refine⟨b.tenor.n,0,.of_tree rfl yV AU ?_⟩;simp[pD,h0,h1,h2,h4]
def ah.ex_of_tree {tab:Nat->Option PC}{ext:Nat->Option (bf->List D->Option D)}{f:Nat}{pc:PC}{t:PT}{ds:List D}{P:D->Prop}(hx:ext f=none)(ht:tab f=some pc)(he:tree pc=t)
 (h:aL (eE tab ext) t (ou ds) (λx=>∃d,x=.ret d/\P d)):∃d,ah (eE tab ext) f ds d/\P d:=by
 subst he;obtain⟨x,⟨d,rfl,hd⟩,n0,hn⟩:=anT (O5 ⟨λ_ _ _ h=>(by obtain⟨_,h,_⟩:=h;cases h),λ_ _ _ _ _ _ h=>(by obtain⟨_,h,_⟩:=h;cases h),λ_ h=>h⟩ h);exact⟨d,.of_pc hx ht ⟨.ret d,rfl,n0,hn⟩,hd⟩
def J4 (d:D):Prop:=∃n e:Int,d=.tup [.int n,.int e]
@[simp] def aJQ (n e:Int):J4 (.tup [.int n,.int e])=True:=eq_true ⟨n,e,rfl⟩
def A5 (r:Realm)(hr:RightD r)(b:Bill)(seen bH:Int):∃d,ah T 82 [aR r,dc b,.int seen,.int bH] d/\J4 d:=by
 have N0:D.agg [D.int b.tenor.kind,D.int b.tenor.n,D.int b.tenor.unit]=lx b.tenor:=rfl;have gh:=Jm r hr.small;refine ah.ex_of_tree rfl R6 ac7 ?_;simp[JF];refine⟨_,gh,?_⟩;by_cases h0:cT r=0
 case neg=>simp[h0]
 simp[h0];refine⟨_,Du r b.city,?_⟩;cases h1:aB b.city r.cities.length
 .simp[h1]
 simp[h1];refine⟨_,Du r b.pay,?_⟩;cases h2:aB b.pay r.cities.length
 .simp[h2]
 simp[h2];refine⟨_,xp b.day,?_⟩;cases h3:bA b.day
 .simp[h3]
 simp[h3];intro _ _ _ _;have hp:0<=b.pay/\b.pay<r.cities.length:=by simpa [aB] using h2
 have fin:0<=bH->bH<=20000->∃d,ah T 123 [aR r,dc b,D.int seen] d/\
  if(d.tget 1).i=0 then ∃d1,ah T 121 [d.tget 0] d1/\(d1.b=true->i64.wrap ((d.tget 0).i+bH)<=100000->
        ∃d2,ah T 124 [aR r,D.int b.pay,D.int (i64.wrap ((d.tget 0).i+bH))] d2/\J4 (D.tup [d2.tget 0,d2.tget 1]))
  else J4 (D.tup [D.int 0,d.tget 1]):=by
  intro uH jO;obtain⟨n,e,h⟩:=apW r hr b seen;refine⟨_,h,?_⟩;by_cases he:e=0
  .simp[he];refine⟨_,xp n,?_⟩;cases hd:bA n
   .simp[hd]
   have fo:0<=n/\n<=100000:=by simpa [bA] using hd
   have hw:i64.wrap (n+bH)=n+bH:=ax (by omega);simp[hd,hw];intro hle;refine⟨_,ZX r hr.halts b.pay (n+bH) hp hr.cities (by omega) (by omega),?_⟩;simp
  .simp[he]
 by_cases hs:seen=-1
 .simp[hs] at fin ⊢;intro uH jO;refine⟨_,ER b.tenor,?_⟩;simp;intro _;exact fin uH jO
 .simp[hs] at fin ⊢;refine⟨_,xp seen,?_⟩;cases hk:bA seen
  .simp[hk]
  simp[hk];intro uH jO;exact⟨⟨_,ER b.tenor⟩,fin uH jO⟩
def qO (r:Realm)(b:Bill)(seen bH:Int):Int×Int:=
 open Classical in if h:RightD r then((A5 r h b seen bH).choose_spec.2.choose,(A5 r h b seen bH).choose_spec.2.choose_spec.choose) else(0,0)
def Rn (r:Realm)(hr:RightD r)(b:Bill)(seen bH:Int):ah T 82 [aR r,dc b,.int seen,.int bH] (.tup [.int (qO r b seen bH).1,.int (qO r b seen bH).2]):=by
 have h:=(A5 r hr b seen bH).choose_spec.2.choose_spec.choose_spec;have h1:=(A5 r hr b seen bH).choose_spec.1;rw[h] at h1;have e:qO r b seen bH=((A5 r hr b seen bH).choose_spec.2.choose,(A5 r hr b seen bH).choose_spec.2.choose_spec.choose):=by unfold qO;rw[dif_pos hr]
 rw[e];exact h1
def df (r:Realm)(forum:Int)(f:File)(day:Int):Int:=
 if(aH f day).signs=[] then-1
 else if(qO r f.bill (nB (aH f day)) (max (fT (fG r forum 6 (aH f day) day)) 0)).2≠0 then-1
 else(qO r f.bill (nB (aH f day)) (max (fT (fG r forum 6 (aH f day) day)) 0)).1
@[simp] def aNU (x:File)(a0 a1 a2 a3 a4 a5 a6 a7 a8 a9 ji ke jk kf kg ln lq ls l9:D):(dp [a0,a1,a2,a3,a4,a5,a6,a7,a8,a9,ji,ke,jk,kf,kg,ln,lq,ls,l9] 0 [.int x.bill.drawer,.int x.bill.drawee,.int x.bill.payee,.int x.bill.sum,.int x.bill.currency,.int x.bill.tenor.kind,.int x.bill.tenor.n,.int x.bill.tenor.unit,.int x.bill.day,.int x.bill.city,.int x.bill.pay,.int x.bill.need,.int x.bill.rate,.int x.bill.flags,.int x.bill.parts,signs x.signs,alters x.alters,acts x.acts,facts x.facts])[15]?.getD D.none=signs x.signs:=zyw
def ael (r:Realm)(hr:Right r)(hd:RightD r)(forum:Int)(f:File)(day:Int)(hf:FewS f):ah T 31 [aR r,.int forum,bQ f,.int day] (.int (df r forum f day)):=by
 refine zyt 57 aDu ?_;simp[aak];refine⟨_,Qq f day (by have:=hf.signs;omega) (by have:=hf.acts;omega) (by have:=hf.alters;omega) (by have:=hf.facts;omega),?_⟩;have hg:=hf.at_ day;have hb:(aH f day).bill=f.bill:=rfl;unfold df;generalize aH f day=g at*;simp;by_cases h0:g.signs=[]
 .simp[h0]
 simp[h0];refine⟨_,aeH r hr forum 6 g day hg,_,aeI _,_,aB2 g (by have:=hg.signs;omega) (by have:=hg.acts;omega),?_⟩;have hm:(if(D.int (fT (fG r forum 6 g day))).i<0 then D.int 0 else D.int (fT (fG r forum 6 g day)))=D.int (max (fT (fG r forum 6 g day)) 0):=by
  simp only[pO];split
  .rw[ad5 (by omega)]
  .rw[Rr (by omega)]
 rw[hm,hb];refine⟨_,Rn r hd f.bill _ _,?_⟩;by_cases he:(qO r f.bill (nB g) (max (fT (fG r forum 6 g day)) 0)).2=0<;>simp[he]
def azb (y:Nat)(h:y<18446744073709551616):ah T 192 [u y] (.int ((64-xu y:Nat):Int)):=by
 refine zyt 107 aDI ?_;have hb:=(ahY h).2.2.2;have hw:i64.wrap (64-(xu y:Nat))=((64-xu y:Nat):Int):=by rw[ax (by omega)];omega
 simp[aaw];refine⟨_,axf y h,?_⟩;simp[hw]
set_option maxHeartbeats 4000000 in
def afr (hi lo y:Nat)(hy:0<y)(zF:hi<y)(m8:lo<18446744073709551616)(sQ:y<18446744073709551616):
 ∃d,ah T 135 [u hi,u lo,u y] d/\∃d2,d=.tup [u ((hi*18446744073709551616+lo)/y),d2]:=by
 refine ah.ex_of_tree rfl apK aDH ?_;have c1:¬y=0:=by omega
 have c2:¬y<=hi:=by omega
 by_cases c3:hi=0
 .subst c3;have hq:IntKind.u64.wrap ((lo:Int)/(y:Int))=((lo/y:Nat):Int):=by
   rw[<-Int.natCast_ediv];exact fc (aeq (vR ..) m8)
  simp[QT,c1,c2,hq]
 .have hb:=ahY sQ;obtain⟨L,hL⟩:∃L,L=xu y:=⟨_,rfl⟩
  have wW:=azb y sQ;rw[<-hL] at hb wW;have Nk:0<L:=by
   rcases JY L with h|h
   .have:=hb.1 h;omega
   .exact h
  have hLs:=hb.2.2.2;obtain⟨s,hs⟩:∃s,s=64-L:=⟨_,rfl⟩
  obtain⟨s',ei⟩:∃s',s'=L:=⟨_,rfl⟩
  rw[<-hs] at wW;have w7:2^s'*2^s=18446744073709551616:=by rw[<-vS,show s'+s=64 by omega]
  have ahg:2^(L-1)*2^s=9223372036854775808:=by rw[<-vS,show L-1+s=63 by omega]
  have bD:y*2^s<18446744073709551616:=by rw[<-w7];exact Nat.mul_lt_mul_of_pos_right (by rw[ei];exact hb.2.2.1) (vT s)
  have iw:9223372036854775808<=y*2^s:=by rw[<-ahg];exact j9 _ (hb.2.1 Nk)
  have ws:IntKind.u64.wrap (s:Int)=s:=fc (by omega);have nX:bO .shl .u64 (y:Int) (s:Int)=((y*2^s:Nat):Int):=by rw[ZY y s (by omega),EN bD]
  have agV:lo/2^s'<2^s:=by rw[Be (vT s'),nP,w7];exact m8
  have zO:0<2^s:=vT s;have auT:hi*2^s+2^s<=y*2^s:=by rw[<-Nat.succ_mul];exact j9 _ zF
  have oa:bO .shl .u64 (hi:Int) (s:Int)=((hi*2^s:Nat):Int):=by rw[ZY hi s (by omega),EN (by omega)]
  have oc:IntKind.u64.wrap (64-(s:Int))=s':=by rw[j1 (by omega)];omega
  have od:bO .shr .u64 (lo:Int) (s':Int)=((lo/2^s':Nat):Int):=QD lo s' (by omega);have oe:bO .or .u64 ((hi*2^s:Nat):Int) ((lo/2^s':Nat):Int)=((hi*2^s+lo/2^s':Nat):Int):=aAe _ _ s (by omega) agV (Nat.mul_mod_left ..) (by omega);have og:bO .shl .u64 (lo:Int) (s:Int)=((lo*2^s%18446744073709551616:Nat):Int):=ZY lo s (by omega);have law:((hi*2^s+lo/2^s')*18446744073709551616+lo*2^s%18446744073709551616)/(y*2^s)=(hi*18446744073709551616+lo)/y:=by
   have h1:lo*2^s/18446744073709551616=lo/2^s':=by rw[<-w7];exact Nat.mul_div_mul_right _ _ (vT s)
   have h2:=sd (lo*2^s) 18446744073709551616;rw[h1] at h2;have h3:(hi*2^s+lo/2^s')*18446744073709551616+lo*2^s%18446744073709551616=(hi*18446744073709551616+lo)*2^s:=by
        rw[lh,lh,Nat.mul_right_comm hi];omega
   rw[h3];exact Nat.mul_div_mul_right _ _ (vT s)
  have hu:hi*2^s+lo/2^s'<y*2^s:=by omega
  have mu:lo*2^s%18446744073709551616<18446744073709551616:=j7 _ (by decide);clear hb w7 ahg agV auT hL;rw[<-law];clear law;generalize y*2^s=v at*;generalize hi*2^s+lo/2^s'=u32 at*;generalize lo*2^s%18446744073709551616=un at*;have nY:bO .shr .u64 (v:Int) 32=((v/4294967296:Nat):Int):=fb v;have nZ:bO .and .u64 (v:Int) 4294967295=((v%4294967296:Nat):Int):=E0 v bD;have oh:bO .shr .u64 (un:Int) 32=((un/4294967296:Nat):Int):=fb un;have om:bO .and .u64 (un:Int) 4294967295=((un%4294967296:Nat):Int):=E0 un mu;have hv:v=v/4294967296*4294967296+v%4294967296:=by omega
  have hn:un=un/4294967296*4294967296+un%4294967296:=by omega
  have aht:2147483648<=v/4294967296:=by omega
  have ahu:v/4294967296<4294967296:=by omega
  have jx:v%4294967296<4294967296:=by omega
  have oL:un/4294967296<4294967296:=by omega
  have U3:un%4294967296<4294967296:=by omega
  generalize v/4294967296=v1 at*;generalize v%4294967296=v0 at*;generalize un/4294967296=n1 at*;generalize un%4294967296=n0 at*;have iO:¬v1=0:=by omega
  have oo:IntKind.u64.wrap ((u32:Int)/(v1:Int))=((u32/v1:Nat):Int):=by
   rw[<-Int.natCast_ediv];exact fc (aeq (vR ..) (by omega))
  have NU:u32/v1*v1+u32%v1=u32:=JX u32 v1;have oq:IntKind.u64.wrap (((u32/v1:Nat):Int)*(v1:Int))=((u32/v1*v1:Nat):Int):=by
   rw[<-Int.natCast_mul];exact fc (by omega)
  have ot:IntKind.u64.wrap ((u32:Int)-((u32/v1*v1:Nat):Int))=((u32%v1:Nat):Int):=by
   rw[j1 (by omega)];omega
  simp[QT,c1,c2,c3,-fb,-Int.natCast_add,-Int.natCast_mul,-Int.natCast_ediv,-Int.natCast_emod];refine⟨_,wW,?_⟩;simp[-fb,-Int.natCast_add,-Int.natCast_mul,-Int.natCast_ediv,-Int.natCast_emod,ws,nX,nY,nZ,oa,oc,od,oe,og,oh,om,iO,oo,oq,ot];refine axl _ (u32/v1) (u32%v1) v1 v0 u32 n1 jx aht ahu oL (by omega) rfl rfl (by simp[-fb,-Int.natCast_add,-Int.natCast_mul,-Int.natCast_ediv,-Int.natCast_emod,ws,nX,nY,nZ,oa,oc,od,oe,og,oh,om,iO,oo,oq,ot]) (by simp[-fb,-Int.natCast_add,-Int.natCast_mul,-Int.natCast_ediv,-Int.natCast_emod,ws,nX,nY,nZ,oa,oc,od,oe,og,oh,om,iO,oo,oq,ot]) (by simp[-fb,-Int.natCast_add,-Int.natCast_mul,-Int.natCast_ediv,-Int.natCast_emod,ws,nX,nY,nZ,oa,oc,od,oe,og,oh,om,iO,oo,oq,ot]) (by simp[-fb,-Int.natCast_add,-Int.natCast_mul,-Int.natCast_ediv,-Int.natCast_emod,ws,nX,nY,nZ,oa,oc,od,oe,og,oh,om,iO,oo,oq,ot]) (by simp[-fb,-Int.natCast_add,-Int.natCast_mul,-Int.natCast_ediv,-Int.natCast_emod,ws,nX,nY,nZ,oa,oc,od,oe,og,oh,om,iO,oo,oq,ot]) _ _ λZ hq hk=>?_;have k2:Z.r 2=u v:=by rw[hk 2 (by simp)];simp[-fb,-Int.natCast_add,-Int.natCast_mul,-Int.natCast_ediv,-Int.natCast_emod,ws,nX,nY,nZ,oa,oc,od,oe,og,oh,om,iO,oo,oq,ot]
  have k8:Z.r 8=u s:=by rw[hk 8 (by simp)];simp[-fb,-Int.natCast_add,-Int.natCast_mul,-Int.natCast_ediv,-Int.natCast_emod,ws,nX,nY,nZ,oa,oc,od,oe,og,oh,om,iO,oo,oq,ot]
  have k9:Z.r 9=u v1:=by rw[hk 9 (by simp)];simp[-fb,-Int.natCast_add,-Int.natCast_mul,-Int.natCast_ediv,-Int.natCast_emod,ws,nX,nY,nZ,oa,oc,od,oe,og,oh,om,iO,oo,oq,ot]
  have Ag:Z.r 10=u v0:=by rw[hk 10 (by simp)];simp[-fb,-Int.natCast_add,-Int.natCast_mul,-Int.natCast_ediv,-Int.natCast_emod,ws,nX,nY,nZ,oa,oc,od,oe,og,oh,om,iO,oo,oq,ot]
  have xq:Z.r 11=u u32:=by rw[hk 11 (by simp)];simp[-fb,-Int.natCast_add,-Int.natCast_mul,-Int.natCast_ediv,-Int.natCast_emod,ws,nX,nY,nZ,oa,oc,od,oe,og,oh,om,iO,oo,oq,ot]
  have xr:Z.r 13=u n1:=by rw[hk 13 (by simp)];simp[-fb,-Int.natCast_add,-Int.natCast_mul,-Int.natCast_ediv,-Int.natCast_emod,ws,nX,nY,nZ,oa,oc,od,oe,og,oh,om,iO,oo,oq,ot]
  have Ah:Z.r 14=u n0:=by rw[hk 14 (by simp)];simp[-fb,-Int.natCast_add,-Int.natCast_mul,-Int.natCast_ediv,-Int.natCast_emod,ws,nX,nY,nZ,oa,oc,od,oe,og,oh,om,iO,oo,oq,ot]
  clear hk;rw[<-hv] at hq;obtain⟨q1,w9⟩:∃q1,q1=(u32*4294967296+n1)/v:=⟨_,rfl⟩
  obtain⟨R,hR⟩:∃R,R=(u32*4294967296+n1)%v:=⟨_,rfl⟩
  rw[<-w9] at hq;have N2:0<v:=by omega
  have aMr:R<v:=by rw[hR];exact j7 _ N2
  have hqR:q1*v+R=u32*4294967296+n1:=by rw[w9,hR];exact JX _ v
  have aMW:q1<4294967296:=by rw[w9,Be N2];omega
  have wv:IntKind.u64.wrap (IntKind.u64.wrap (IntKind.u64.wrap ((u32:Int)*4294967296)+(n1:Int))-IntKind.u64.wrap ((q1:Int)*(v:Int)))=(R:Int):=by
   have h1:(q1:Int)*(v:Int)+(R:Int)=(u32:Int)*4294967296+n1:=by rw[<-Int.natCast_mul];omega
   simp only[Rg];generalize (q1:Int)*(v:Int)=M at*;omega
  have wx:IntKind.u64.wrap ((R:Int)/(v1:Int))=((R/v1:Nat):Int):=by
   rw[<-Int.natCast_ediv];exact fc (aeq (vR ..) (by omega))
  have aMZ:R/v1*v1+R%v1=R:=JX R v1;have wk:IntKind.u64.wrap (((R/v1:Nat):Int)*(v1:Int))=((R/v1*v1:Nat):Int):=by
   rw[<-Int.natCast_mul];exact fc (by omega)
  have wq:IntKind.u64.wrap ((R:Int)-((R/v1*v1:Nat):Int))=((R%v1:Nat):Int):=by
   rw[j1 (by omega)];omega
  simp[-fb,-Int.natCast_add,-Int.natCast_mul,-Int.natCast_ediv,-Int.natCast_emod,k2,k9,xq,xr,hq,iO,wv,wx,wk,wq];refine axm _ (R/v1) (R%v1) v1 v0 R n0 jx aht ahu U3 (by omega) rfl rfl (by simp[-fb,-Int.natCast_add,-Int.natCast_mul,-Int.natCast_ediv,-Int.natCast_emod,k2,k8,k9,Ag,xq,xr,Ah,hq,iO,wv,wx,wk,wq]) (by simp[-fb,-Int.natCast_add,-Int.natCast_mul,-Int.natCast_ediv,-Int.natCast_emod,k2,k8,k9,Ag,xq,xr,Ah,hq,iO,wv,wx,wk,wq]) (by simp[-fb,-Int.natCast_add,-Int.natCast_mul,-Int.natCast_ediv,-Int.natCast_emod,k2,k8,k9,Ag,xq,xr,Ah,hq,iO,wv,wx,wk,wq]) (by simp[-fb,-Int.natCast_add,-Int.natCast_mul,-Int.natCast_ediv,-Int.natCast_emod,k2,k8,k9,Ag,xq,xr,Ah,hq,iO,wv,wx,wk,wq]) (by simp[-fb,-Int.natCast_add,-Int.natCast_mul,-Int.natCast_ediv,-Int.natCast_emod,k2,k8,k9,Ag,xq,xr,Ah,hq,iO,wv,wx,wk,wq]) _ _ λH eM hk=>?_;have j15:H.r 15=u q1:=by rw[hk 15 (by simp)];simp[-fb,-Int.natCast_add,-Int.natCast_mul,-Int.natCast_ediv,-Int.natCast_emod,k2,k8,k9,Ag,xq,xr,Ah,hq,iO,wv,wx,wk,wq]
  have j8:H.r 8=u s:=by rw[hk 8 (by simp)];simp[-fb,-Int.natCast_add,-Int.natCast_mul,-Int.natCast_ediv,-Int.natCast_emod,k2,k8,k9,Ag,xq,xr,Ah,hq,iO,wv,wx,wk,wq]
  rw[<-hv] at eM;clear hk;obtain⟨q0,sH⟩:∃q0,q0=(R*4294967296+n0)/v:=⟨_,rfl⟩
  rw[<-sH] at eM;have aMV:q0<4294967296:=by rw[sH,Be N2];omega
  have w1:IntKind.u64.wrap (IntKind.u64.wrap ((q1:Int)*4294967296)+(q0:Int))=((q1*4294967296+q0:Nat):Int):=by
   rw[j1 (n:=(q1:Int)*4294967296) (by omega),j1 (by omega)];omega
  have fin:(u32*18446744073709551616+un)/v=q1*4294967296+q0:=by
   have h1:u32*18446744073709551616+un=R*4294967296+n0+v*(q1*4294967296):=by
        have:v*(q1*4294967296)=(q1*v)*4294967296:=by rw[<-Bf,nP v q1]
        omega
   rw[h1,aen _ _ N2,<-sH];omega
  rw[fin];simp[j8,j15,eM,w1,-Int.natCast_add,-Int.natCast_mul]
end Rm
