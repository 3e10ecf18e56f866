import Derived.Test.YtbagcfebdgiihaaGreatDoorAAL
import Derived.Lib.Mul64
open Go.IntKind (i64)
set_option linter.all false
namespace Rm
open Go Go.Proofs Cx
def aAW (l:List ByteArray)(n:Nat)(x:ByteArray)(hn:n<=l.length)(hl:l.length<=4294967296):ah T 256 [strs l,.int n,str x] (.bool (hasB (l.take n) x)):=by
 refine zyt 195 aEJ ?_;simp[abv];refine .scan n (λk=>l.getD k default≠x) (λk=>[.bool false,.int k]) (λ_=>[]) ?_ (λk hk hj ho=>?_) (λk hk hj ho=>?_) (λhj=>?_)
 .simp
 .have bu:k<l.length:=by omega
  have hw:=be bu hl;simp[bu] at ho;simp[YH,Ip,hk,bu,hw,strs,ho]
 .have bu:k<l.length:=by omega
  simp[bu] at ho;have hm:hasB (l.take n) x=true:=Ul.2 (by rw[<-ho,ao1];exact⟨k,by omega,rfl⟩);simp[YH,Ip,hk,bu,strs,ho,hm]
 .have hm:hasB (l.take n) x=false:=agk.2 (λh=>by
   rw[ao1] at h;obtain⟨k,hk,e⟩:=h;have:=hj k (by omega);simp[show k<l.length by omega] at this;exact this e)
  simp[YH,Ip,hm]
def ix (l:List ByteArray)(i:Nat):Int:=if jz (l.getD i default)=false then 2 else if hasB (l.take i) (l.getD i default) then 5 else 0
def V7 (l:List ByteArray)(i n:Nat)(h:i<n):ix (l.take n) i=ix l i:=by
 unfold ix;rw[bn,List.getElem?_take_of_lt h,List.take_take,qG (by omega),<-bn]
def H2 (l:List ByteArray)(i:Nat)(hi:i<l.length)(hl:l.length<=4294967296):ah T 229 [strs l,.int i] (.int (ix l i)):=by
 refine zyt 192 aEX ?_;simp[abI,hi];refine⟨_,by simpa [strs,hi] using aAZ l[i],?_⟩;unfold ix;rw[bn,cd hi,lj];cases h1:jz l[i]<;>simp[h1];refine⟨_,by simpa [strs,hi] using aAW l i l[i] (by omega) hl,?_⟩;cases h2:hasB (l.take i) l[i]<;>simp[h2]
def anb (l:List ByteArray)(i:Nat)(hi:i<l.length)(hl:l.length<=4294967296):ah T 102 [strs l,.int i] (.int (ix l i)):=by
 refine zyt 65 aGc ?_;simp[acK,hi];refine⟨_,by simpa [strs,hi] using aBX l[i],?_⟩;unfold ix;rw[bn,cd hi,lj];cases h1:jz l[i]<;>simp[h1];refine⟨by omega,_,by simpa [strs,hi] using aoK (l.take i) l[i] (by rw[eQ];omega),?_⟩;cases h2:hasB (l.take i) l[i]<;>simp[h2]
def kH (l:List ByteArray)(g:Nat->Bool)(i:Nat):Int:=if ix l i≠0 then ix l i else if g i then 0 else 1
def eG (l:List ByteArray)(Hv:Int)(g:Nat->Bool):Int:=if Hv<l.length then 6 else gd l.length (kH l g)
def Qo (l:List ByteArray)(Hv:Int)(f:Nat)(caps:List D)(g:Nat->Bool)(hg:∀i:Nat,i<l.length->ah T f (.int i::caps) (.bool (g i)))(hl:l.length<=4294967296):
 ah T 53 [strs l,.int Hv,.clo f caps] (.int (eG l Hv g)):=by
 refine zyt 64 aF9 ?_;simp[acH,eG];by_cases h0:Hv<l.length
 .simp[h0];intro h;omega
 simp[h0];refine pB l.length (kH l g) (λk=>[.int 0,.int k]) (λ_=>[]) ?_ (λk hk ho=>?_) (λk hk ho hb=>?_) (λhj=>?_)
 .simp
 .have hw:=be hk hl;have h1:ix l k=0:=by
   refine EA λh=>?_;unfold kH at ho;rw[if_pos h] at ho;exact h ho
  have h2:g k=true:=by
   unfold kH at ho;rw[if_neg (by simpa using h1)] at ho;cases h:g k with
   |true=>rfl
   |false=>rw[h] at ho;simp at ho
  simp[Zn,IZ,hk,hw];refine⟨_,anb l k hk hl,?_⟩;simp[h1];refine⟨_,_,⟨rfl,rfl⟩,_,hg k hk,?_⟩;simp[h2,hw]
 .simp[Zn,IZ,hk,hb];refine⟨_,anb l k hk hl,?_⟩;unfold kH at ho ⊢;by_cases h1:ix l k=0
  .simp[h1] at ho ⊢;refine⟨_,_,⟨rfl,rfl⟩,_,hg k hk,?_⟩;simp[ho]
  .simp[h1]
 .simp[Zn,IZ,hj]
def X7 (l:List Int)(a b:Int)(hl:l.length<=4294967296):ah T 257 [ints l,.int a,.int b] (.bool (rising l a b)):=by
 refine zyt 197 aES ?_;simp[abD];refine gM l.length (pz l a b) (λk=>[.bool false,.int k]) (λ_=>[]) ?_ (λk hk ho=>?_) (λk hk ho hb=>?_) (λhj=>?_)
 .simp
 .have hw:=be hk hl;simp[pz,hk] at ho;simp[YM,Iv,hk,hw,ints];refine⟨_,cI _ _ _,?_⟩;by_cases gY:0<k
  .have bC:k-1<l.length:=by omega
   have cl:i64.wrap ((k:Int)-1)=((k-1:Nat):Int):=by rw[yF (by omega)];omega
   have fI:¬l[k]<=l[k-1]:=by
        rcases ho.2 with h3|h3
        .omega
        .simp[bC] at h3;omega
   simp[ho.1,hk,hw,cl,fI,gY,bC]
  .simp[ho.1,hk,hw,gY];omega
 .have hf:rising l a b=false:=hb;simp[pz,hk] at ho;simp[YM,Iv,hk,ints,hf];refine⟨_,cI _ _ _,?_⟩;cases h1:wi l[k] a b with
  |false=>simp
  |true=>
   have h3:=ho h1;have gY:0<k:=by omega
   have bC:k-1<l.length:=by omega
   have cl:i64.wrap ((k:Int)-1)=((k-1:Nat):Int):=by rw[yF (by omega)];omega
   have fI:=h3.2;simp[bC] at fI;simp[hk,cl,fI,gY,bC]
 .have hf:rising l a b=true:=hj;simp[YM,Iv,hf]
def Z6 (n:Int):n.tdiv 100=if 0<=n then n/100 else-((-n)/100):=by
 split
 .rename_i h;exact l6 h
 .rename_i h;have e:n.tdiv 100=-((-n).tdiv 100):=by rw[Int.neg_tdiv,Int.neg_neg]
  rw[e,l6 (by omega)]
def anN (n:Int):n.tmod 100=n-100*n.tdiv 100:=Int.tmod_def n 100
def aoy {n:Int}(h:aX n):i64.wrap (n.tdiv 100)=n.tdiv 100:=ax (by rw[Z6];unfold aX at h;split<;>omega)
def mU (r:Realm)(c:City):Bool:=fl c.feasts.length (λk=>wi ((c.feasts.getD k 0).tmod 100) 1 31)&&(decide (c.feasts.length<=60)&&decide (c.shut.length<=200)&&aB c.order r.orders.length&&aB c.currency r.currencies.length)&&
 (rising c.rest 0 6&&rising c.feasts 101 1231&&rising c.shut 0 100000)
def aBV (r:Realm)(c:City)(h1:c.rest.length<=4294967296)(h2:c.feasts.length<=4294967296)(h3:c.shut.length<=4294967296):ah T 56 [aR r,ga c] (.bool (mU r c)):=by
 refine zyt 71 aF8 ?_;simp[acG];refine gM c.feasts.length (λk=>wi ((c.feasts.getD k 0).tmod 100) 1 31) (λk=>[.bool false,.int k]) (λ_=>[]) ?_ (λk hk ho=>?_) (λk hk ho hb=>?_) (λhj=>?_)
 .simp
 .have hw:=be hk h2;simp[wi,hk] at ho;have g1:¬(c.feasts[k].tmod 100<1):=by omega
  have g2:¬(31<c.feasts[k].tmod 100):=by omega
  simp[Zm,IY,hk,hw,ints,g1,g2]
 .have hf:mU r c=false:=by simp only[mU,hb,tQ]
  simp[wi,hk] at ho;simp[Zm,IY,hk,ints,hf];by_cases g1:c.feasts[k].tmod 100<1
  .simp[g1]
  .have g2:=ho (by omega);simp[g1,g2]
 .simp[Zm,IY];by_cases g1:(c.feasts.length:Int)<=60
  case neg=>
   have hf:mU r c=false:=by
        have dW:decide (c.feasts.length<=60)=false:=decide_eq_false (by omega);simp only[mU,dW,tQ,A2]
   have dW:(60:Int)<c.feasts.length:=by omega
   simp[g1,dW,hf]
  by_cases g2:(c.shut.length:Int)<=200
  case neg=>
   have hf:mU r c=false:=by
        have dW:decide (c.shut.length<=200)=false:=decide_eq_false (by omega);simp only[mU,dW,tQ,A2]
   have ly:(200:Int)<c.shut.length:=by omega
   simp[g1,g2,ly,hf]
  have dW:¬(60:Int)<c.feasts.length:=by omega
  have ly:¬(200:Int)<c.shut.length:=by omega
  have hf:mU r c=(aB c.order r.orders.length&&aB c.currency r.currencies.length&&(rising c.rest 0 6&&rising c.feasts 101 1231&&rising c.shut 0 100000)):=by
   have e1:decide (c.feasts.length<=60)=true:=decide_eq_true (by omega);have e2:decide (c.shut.length<=200)=true:=decide_eq_true (by omega);simp only[mU,hj,e1,e2,yJ]
  rw[hf];simp[g1,g2,dW,ly];refine⟨_,gu _ _,?_⟩;simp;cases e1:aB c.order r.orders.length<;>simp;refine⟨_,gu _ _,?_⟩;simp;cases e2:aB c.currency r.currencies.length<;>simp;refine⟨_,Jn _ _ _ h1,?_⟩;simp;cases e3:rising c.rest 0 6<;>simp;refine⟨_,Jn _ _ _ h2,?_⟩;simp;cases e4:rising c.feasts 101 1231<;>simp;exact Jn _ _ _ h3
def qK (r:Realm)(c:City):Bool:=(wi c.order 0 (r.orders.length-1)&&wi c.currency 0 (r.currencies.length-1)&&decide (c.feasts.length<=60)&&decide (c.shut.length<=200))&&
 fl c.feasts.length (λk=>wi ((c.feasts.getD k 0).tdiv 100) 1 12&&wi ((c.feasts.getD k 0).tmod 100) 1 31)&&(rising c.rest 0 6&&rising c.feasts 0 2000&&rising c.shut 0 100000)
def tO (n:Nat)(h:n<=4294967296):i64.wrap ((n:Int)-1)=(n:Int)-1:=ax (by omega)
def aA0 (r:Realm)(c:City)(h1:c.rest.length<=4294967296)(h2:c.feasts.length<=4294967296)(h3:c.shut.length<=4294967296)(h4:r.orders.length<=4294967296)(h5:r.currencies.length<=4294967296)(hi:∀y,y∈c.feasts->aX y):
 ah T 230 [aR r,ga c] (.bool (qK r c)):=by
 refine zyt 196 aEQ ?_;simp[abB,tO _ h4,tO _ h5];refine⟨_,cI _ _ _,?_⟩;cases e1:wi c.order 0 (r.orders.length-1)
 case false=>simp[qK,e1]
 simp;refine⟨_,cI _ _ _,?_⟩;cases e2:wi c.currency 0 (r.currencies.length-1)
 case false=>simp[qK,e1,e2]
 by_cases g1:(c.feasts.length:Int)<=60
 case neg=>
  have hf:qK r c=false:=by
   have dW:decide (c.feasts.length<=60)=false:=decide_eq_false (by omega);simp only[qK,dW,tQ,A2]
  have dW:(60:Int)<c.feasts.length:=by omega
  simp[dW,hf]
 by_cases g2:(c.shut.length:Int)<=200
 case neg=>
  have hf:qK r c=false:=by
   have dW:decide (c.shut.length<=200)=false:=decide_eq_false (by omega);simp only[qK,dW,tQ,A2]
  have ly:(200:Int)<c.shut.length:=by omega
  simp[ly,hf]
 have dW:¬(60:Int)<c.feasts.length:=by omega
 have ly:¬(200:Int)<c.shut.length:=by omega
 have hf:qK r c=(fl c.feasts.length (λk=>wi ((c.feasts.getD k 0).tdiv 100) 1 12&&wi ((c.feasts.getD k 0).tmod 100) 1 31)&&(rising c.rest 0 6&&rising c.feasts 0 2000&&rising c.shut 0 100000)):=by
  have e3:decide (c.feasts.length<=60)=true:=decide_eq_true (by omega);have e4:decide (c.shut.length<=200)=true:=decide_eq_true (by omega);simp only[qK,e1,e2,e3,e4,yJ]
 rw[hf];simp[dW,ly];refine gM c.feasts.length (λk=>wi ((c.feasts.getD k 0).tdiv 100) 1 12&&wi ((c.feasts.getD k 0).tmod 100) 1 31) (λk=>[.bool false,.int k]) (λ_=>[]) ?_ (λk hk ho=>?_) (λk hk ho hb=>?_) (λhj=>?_)
 .simp
 .have hw:=be hk h2;have hI:=hi _ (bR hk);have hq:i64.wrap (c.feasts[k].tdiv 100)=c.feasts[k].tdiv 100:=aoy hI;simp[hk] at ho;simp[YJ,Is,hk,ints,hq];refine⟨_,cI _ _ _,?_⟩;simp[ho.1,hk];refine⟨_,cI _ _ _,?_⟩;simp[ho.2,hk,hw]
 .have hI:=hi _ (bR hk);have hq:i64.wrap (c.feasts[k].tdiv 100)=c.feasts[k].tdiv 100:=aoy hI;simp[hk] at ho;simp only[bn] at hb;rw[hb];simp[YJ,Is,hk,ints,hq];refine⟨_,cI _ _ _,?_⟩;cases e3:wi (c.feasts[k].tdiv 100) 1 12 with
  |false=>simp
  |true=>
   have:=ho e3;simp[hk];refine⟨_,cI _ _ _,?_⟩;simp[this]
 .simp only[bn] at hj;rw[hj];simp[YJ,Is];refine⟨_,X7 _ _ _ h1,?_⟩;simp;cases e3:rising c.rest 0 6<;>simp;refine⟨_,X7 _ _ _ h2,?_⟩;simp;cases e4:rising c.feasts 0 2000<;>simp;exact X7 _ _ _ h3
def aqm (r:Realm)(c:City):qK r c=mU r c:=by
 rw[tP];have cj:∀(i:Int) (n:Nat),(wi i 0 (n-1)=true)↔(aB i n=true):=by intro i n;simp[wi,aB];omega
 simp only[qK,mU,aA,decide_eq_true_eq,cj,rising,v8,pz];constructor
 .rintro⟨⟨⟨⟨⟨a1,a2⟩,a3⟩,a4⟩,a5⟩,⟨a6,a7⟩,a8⟩;refine⟨⟨λk hk=>(a5 k hk).2,⟨⟨⟨a3,a4⟩,a1⟩,a2⟩⟩,⟨a6,λk hk=>?_⟩,a8⟩;have h1:=a5 k hk;have h2:=a7 k hk;simp[wi,anN,Z6] at h1 h2 ⊢;split at h1<;>omega
 .rintro⟨⟨a5,⟨⟨⟨a3,a4⟩,a1⟩,a2⟩⟩,⟨a6,a7⟩,a8⟩;refine⟨⟨⟨⟨⟨a1,a2⟩,a3⟩,a4⟩,λk hk=>?_⟩,⟨a6,λk hk=>?_⟩,a8⟩
  .have h1:=a5 k hk;have h2:=a7 k hk;simp[wi,anN,Z6] at h1 h2 ⊢;split at h1<;>(try split)<;>omega
  .have h2:=a7 k hk;simp[wi] at h2 ⊢;omega
def El {α β:Type}(f:α->β){l:List α}{k:Nat}(h:k<l.length):(l.take (k+1)).map f=(l.take k).map f++[f l[k]]:=by
 rw[gA h,vP];rfl
def oR (i:Int)(n:Nat):aB i n=wi i 0 ((n:Int)-1):=by
 rw[tP];simp[wi,aB];omega
def yT (o:Order):List Int:=o.choices.map (·.ask)
def E2 (o:Order):List Int:=o.rules.map (·.ask)
def qh (o:Order):Bool:=fl o.choices.length (λk=>aB (o.choices.getD k default).by_ 5)&&(rising (yT o) 0 21&&rising (E2 o) 0 21)
def aBZ (o:Order)(h1:o.choices.length<=100000)(h2:o.rules.length<=100000):ah T 60 [iu o] (.bool (qh o)):=by
 refine zyt 75 aGe ?_;simp[acM];refine gM o.choices.length (λk=>aB (o.choices.getD k default).by_ 5) (λk=>[.bool false,.none,.int k]) (λk=>[ints ((o.choices.take k).map (·.ask))]) ?_ (λk hk ho=>?_) (λk hk ho hb=>?_) (λhj=>?_)
 .simp[ints]
 .have hw:=be hk (by omega);have hl:(o.choices.take k).length=k:=by rw[eQ];omega
  simp[hk] at ho;rw[El _ hk];simp[Zp,I1,hk,hw,ints,hl];refine⟨by omega,_,gu _ _,?_⟩;simp[ho,hw]
 .have hf:qh o=false:=by simp only[qh,hb,tQ]
  have hl:(o.choices.take k).length=k:=by rw[eQ];omega
  simp[hk] at ho;simp[Zp,I1,hk,ints,hl,hf];refine⟨by omega,_,gu _ _,?_⟩;simp[ho]
 .have hf:qh o=(rising (yT o) 0 21&&rising (E2 o) 0 21):=by simp only[qh,hj,yJ]
  rw[hf];simp[Zp,I1];refine aG.forRounds o.rules.length (λk=>[.none,.int k]) (λk=>[ints ((o.rules.take k).map (·.ask))]) ?_ (λk hk=>?_) ?_
  .simp[ints]
  .have hw:=be hk (by omega);have hl:(o.rules.take k).length=k:=by rw[eQ];omega
   rw[El _ hk];simp[am5,Qg,hk,hw,ints,hl];omega
  .simp[am5,Qg];refine⟨_,Jn (yT o) _ _ (by simp[yT];omega),?_⟩;simp;cases e1:rising (yT o) 0 21<;>simp;exact Jn (E2 o) _ _ (by simp[E2];omega)
def Av (o:Order)(k:Nat):Bool:=wi (o.choices.getD k default).ask 0 21&&wi (o.choices.getD k default).by_ 0 4&&(k==0||decide ((o.choices.getD (k-1) default).ask<(o.choices.getD k default).ask))
def DP (o:Order)(k:Nat):Bool:=wi (o.rules.getD k default).ask 0 21&&(k==0||decide ((o.rules.getD (k-1) default).ask<(o.rules.getD k default).ask))
def aAg (o:Order):(fl o.choices.length (Av o)&&fl o.rules.length (DP o))=qh o:=by
 rw[tP];simp only[qh,aA,rising,v8,yT,E2,nN];have g1:∀k,k<o.choices.length->(pz (o.choices.map (·.ask)) 0 21 k=true↔wi (o.choices.getD k default).ask 0 21=true/\(k=0\/(o.choices.getD (k-1) default).ask<(o.choices.getD k default).ask)):=by
  intro k hk;have bC:k-1<o.choices.length:=by omega
  simp[pz,hk,bC]
 have g2:∀k,k<o.rules.length->(pz (o.rules.map (·.ask)) 0 21 k=true↔wi (o.rules.getD k default).ask 0 21=true/\(k=0\/(o.rules.getD (k-1) default).ask<(o.rules.getD k default).ask)):=by
  intro k hk;have bC:k-1<o.rules.length:=by omega
  simp[pz,hk,bC]
 constructor
 .rintro⟨a,b⟩;refine⟨λk hk=>?_,λk hk=>(g1 k hk).2 ?_,λk hk=>(g2 k hk).2 ?_⟩
  .have:=a k hk;simp[Av,wi,aB] at this ⊢;omega
  .have:=a k hk;simp[Av] at this ⊢;exact⟨this.1.1,this.2⟩
  .have:=b k hk;simp[DP] at this ⊢;exact this
 .rintro⟨c,a,b⟩;refine⟨λk hk=>?_,λk hk=>?_⟩
  .have h1:=(g1 k hk).1 (a k hk);have h2:=c k hk;simp[Av,wi,aB] at h1 h2 ⊢;omega
  .have h1:=(g2 k hk).1 (b k hk);simp[DP] at h1 ⊢;exact h1
def aA1 (o:Order)(h1:o.choices.length<=100000)(h2:o.rules.length<=100000):ah T 231 [iu o] (.bool (qh o)):=by
 rw[<-aAg];refine zyt 200 aER ?_;simp[abC];refine gM o.choices.length (Av o) (λk=>[.bool false,.int k]) (λ_=>[]) ?_ (λk hk ho=>?_) (λk hk ho hb=>?_) (λhj=>?_)
 .simp
 .have hw:=be hk (by omega);simp[Av,hk] at ho;simp[YK,It,hk];refine⟨_,cI _ _ _,?_⟩;simp[ho.1.1,hk];refine⟨_,cI _ _ _,?_⟩;by_cases gY:0<k
  .have bC:k-1<o.choices.length:=by omega
   have cl:i64.wrap ((k:Int)-1)=((k-1:Nat):Int):=by rw[yF (by omega)];omega
   have h3:¬o.choices[k].ask<=o.choices[k-1].ask:=by
        rcases ho.2 with h3|h3
        .omega
        .simp[bC] at h3;omega
   simp[ho.1.2,hk,hw,cl,h3,gY,bC]
  .simp[ho.1.2,hk,hw,gY];omega
 .rw[hb];simp[Av,hk] at ho;simp[YK,It,hk];refine⟨_,cI _ _ _,?_⟩;cases e1:wi o.choices[k].ask 0 21 with
  |false=>simp
  |true=>
   simp[hk];refine⟨_,cI _ _ _,?_⟩;cases e2:wi o.choices[k].by_ 0 4 with
   |false=>simp
   |true=>
    have h3:=ho e1 e2;have gY:0<k:=by omega
    have bC:k-1<o.choices.length:=by omega
    have cl:i64.wrap ((k:Int)-1)=((k-1:Nat):Int):=by rw[yF (by omega)];omega
    have fI:=h3.2;simp[bC] at fI;simp[hk,cl,fI,gY,bC]
 .rw[hj];simp[YK,It];refine gM o.rules.length (DP o) (λk=>[.bool false,.int k]) (λ_=>[]) ?_ (λk hk ho=>?_) (λk hk ho hb=>?_) (λhj=>?_)
  .simp
  .have hw:=be hk (by omega);simp[DP,hk] at ho;simp[YL,Iu,hk];refine⟨_,cI _ _ _,?_⟩;by_cases gY:0<k
   .have bC:k-1<o.rules.length:=by omega
    have cl:i64.wrap ((k:Int)-1)=((k-1:Nat):Int):=by rw[yF (by omega)];omega
    have h3:¬o.rules[k].ask<=o.rules[k-1].ask:=by
       rcases ho.2 with h3|h3
       .omega
       .simp[bC] at h3;omega
    simp[ho.1,hk,hw,cl,h3,gY,bC]
   .simp[ho.1,hk,hw,gY];omega
  .rw[hb];simp[DP,hk] at ho;simp[YL,Iu,hk];refine⟨_,cI _ _ _,?_⟩;cases e1:wi o.rules[k].ask 0 21 with
   |false=>simp
   |true=>
    have h3:=ho e1;have gY:0<k:=by omega
    have bC:k-1<o.rules.length:=by omega
    have cl:i64.wrap ((k:Int)-1)=((k-1:Nat):Int):=by rw[yF (by omega)];omega
    have fI:=h3.2;simp[bC] at fI;simp[hk,cl,fI,gY,bC]
  .rw[hj];simp[YL,Iu]
def fA (r:Realm):List ByteArray:=r.cities.map (·.name)
def fB (r:Realm):List ByteArray:=r.firms.map (·.name)
def fC (r:Realm):List ByteArray:=r.orders.map (·.name)
def aBY (r:Realm)(h1:r.cities.length<=100000)(h2:r.firms.length<=100000)(h3:r.orders.length<=100000):ah T 52 [aR r] (.tup [strs (fA r),strs (fB r),strs (fC r)]):=by
 refine zyt 63 aGd ?_;simp[acL];refine aG.forRounds r.cities.length (λk=>[.none,.int k]) (λk=>[strs ((r.cities.take k).map (·.name))]) ?_ (λk hk=>?_) ?_
 .simp[strs]
 .have hw:=be hk (by omega);have hl:(r.cities.take k).length=k:=by rw[eQ];omega
  rw[El _ hk];simp[am2,Qd,hk,hw,strs,hl];omega
 .simp[am2,Qd];refine aG.forRounds r.firms.length (λk=>[.none,.int k]) (λk=>[strs ((r.firms.take k).map (·.name))]) ?_ (λk hk=>?_) ?_
  .simp[strs]
  .have hw:=be hk (by omega);have hl:(r.firms.take k).length=k:=by rw[eQ];omega
   rw[El _ hk];simp[am3,Qe,hk,hw,strs,hl];omega
  .simp[am3,Qe];refine aG.forRounds r.orders.length (λk=>[.none,.int k]) (λk=>[strs ((r.orders.take k).map (·.name))]) ?_ (λk hk=>?_) ?_
   .simp[strs]
   .have hw:=be hk (by omega);have hl:(r.orders.take k).length=k:=by rw[eQ];omega
    rw[El _ hk];simp[am4,Qf,hk,hw,strs,hl];omega
   .simp[am4,Qf,fA,fB,fC]
structure Small (r:Realm):Prop where
 cur:r.currencies.length<=1000
 cities:r.cities.length<=1000
 groups:r.groups.length<=1000
 firms:r.firms.length<=1000
 orders:r.orders.length<=1000
 us:r.usances.length<=1000
 rates:r.rates.length<=1000
 halts:r.halts.length<=1000
 city:∀c,c∈r.cities->c.rest.length<=1000/\c.feasts.length<=1000/\c.shut.length<=1000/\∀y,y∈c.feasts->aX y
 order:∀o,o∈r.orders->o.choices.length<=1000/\o.rules.length<=1000
 rate:∀x,x∈r.rates->aX x.num/\aX x.den
def mJ (r:Realm)(k j:Nat):Bool:=(r.usances.getD j default).fr !=(r.usances.getD k default).fr||(r.usances.getD j default).to !=(r.usances.getD k default).to
def AY (r:Realm)(k:Nat):Int:=
 if(aB (r.usances.getD k default).fr r.cities.length&&aB (r.usances.getD k default).to r.cities.length&&wi (r.usances.getD k default).days 1 20000)=false then 1 else if fl k (mJ r k) then 0 else 5
def yw (r:Realm):Int:=if 100<r.usances.length then 6 else gd r.usances.length (AY r)
def aB1 (r:Realm)(h:Small r):ah T 61 [aR r] (.int (yw r)):=by
 refine zyt 76 aGh ?_;have hu:=h.us;simp[acP,yw];by_cases h0:100<r.usances.length
 .have eH:(100:Int)<r.usances.length:=by omega
  have zp:¬r.usances.length<=100:=by omega
  simp[h0,eH,zp]
 have eH:¬(100:Int)<r.usances.length:=by omega
 simp[h0,eH];refine pB r.usances.length (AY r) (λk=>[.int 0,.int k]) (λ_=>[]) ?_ (λk hk ho=>?_) (λk hk ho hb=>?_) (λhj=>?_)
 .simp
 .have hw:=be hk (by omega);have ha:aB r.usances[k].fr r.cities.length=true/\aB r.usances[k].to r.cities.length=true/\wi r.usances[k].days 1 20000=true/\fl k (mJ r k)=true:=by
   unfold AY at ho;simp only[bn,cd hk,lj] at ho;cases e1:aB r.usances[k].fr r.cities.length<;>cases e2:aB r.usances[k].to r.cities.length<;>cases e3:wi r.usances[k].days 1 20000<;>cases e4:fl k (mJ r k)<;>simp[e1,e2,e3,e4] at ho ⊢
  obtain⟨a1,a2,a3,a4⟩:=ha;simp[wi] at a3;have a5:¬r.usances[k].days<1:=by omega
  have a6:¬20000<r.usances[k].days:=by omega
  simp[Zs,I4,hk];refine⟨_,gu _ _,?_⟩;simp[a1];refine⟨_,gu _ _,?_⟩;simp[a2,a5,a6];refine⟨by omega,gM k (mJ r k) (λj=>[.int 0,.int j]) (λ_=>[]) ?_ (λj hj fR=>?_) (λj hj fR eI=>?_) (λm6=>?_)⟩
  .simp
  .have zW:=be hj (by omega);have br:j<r.usances.length:=by omega
   have hm:j<min k r.usances.length:=by omega
   simp[mJ,br,hk] at fR;simp[Qh,Ea,hj,br,hk,zW,hm];intro e e';rcases fR with h|h
   .exact absurd e h
   .exact absurd e' h
  .rw[a4] at eI;cases eI
  .simp[Qh,Ea,hw];omega
 .simp[Zs,I4,hk,hb];refine⟨_,gu _ _,?_⟩;unfold AY at ho ⊢;simp only[bn,cd hk,lj] at ho ⊢;cases e1:aB r.usances[k].fr r.cities.length
  .simp
  simp;refine⟨_,gu _ _,?_⟩;cases e2:aB r.usances[k].to r.cities.length
  .simp
  cases e3:wi r.usances[k].days 1 20000
  .simp[wi] at e3;by_cases g:r.usances[k].days<1
   .simp[g]
   .simp[g,e3 (by omega)]
  have TE:=e3;simp[wi] at TE;have a5:¬r.usances[k].days<1:=by omega
  have a6:¬20000<r.usances[k].days:=by omega
  simp[e1,e2,e3] at ho;simp[a5,a6];refine⟨by omega,gM k (mJ r k) (λj=>[.int 0,.int j]) (λ_=>[]) ?_ (λj hj fR=>?_) (λj hj fR eI=>?_) (λm6=>?_)⟩
  .simp
  .have zW:=be hj (by omega);have br:j<r.usances.length:=by omega
   have hm:j<min k r.usances.length:=by omega
   simp[mJ,br,hk] at fR;simp[Qh,Ea,hj,br,hk,zW,hm];intro e e';rcases fR with h|h
   .exact absurd e h
   .exact absurd e' h
  .have br:j<r.usances.length:=by omega
   have hm:j<min k r.usances.length:=by omega
   simp[mJ,br,hk] at fR;simp[Qh,Ea,hj,br,hk,ho,hm]
   first|exact fR|simp[fR]
  .rw[m6] at ho;cases ho
 .simp[Zs,I4,hj]
def aA6 (r:Realm)(h:Small r):ah T 196 [aR r] (.int (yw r)):=by
 refine zyt 201 aE0 ?_;have hu:=h.us;have hc:=h.cities;simp[abL,yw];by_cases h0:100<r.usances.length
 .have eH:(100:Int)<r.usances.length:=by omega
  have zp:¬r.usances.length<=100:=by omega
  simp[h0,eH,zp]
 have eH:¬(100:Int)<r.usances.length:=by omega
 simp[h0,eH];refine pB r.usances.length (AY r) (λk=>[.int 0,.int k]) (λ_=>[]) ?_ (λk hk ho=>?_) (λk hk ho hb=>?_) (λhj=>?_)
 .simp
 .have hw:=be hk (by omega);have ha:aB r.usances[k].fr r.cities.length=true/\aB r.usances[k].to r.cities.length=true/\wi r.usances[k].days 1 20000=true/\fl k (mJ r k)=true:=by
   unfold AY at ho;simp only[bn,cd hk,lj] at ho;cases e1:aB r.usances[k].fr r.cities.length<;>cases e2:aB r.usances[k].to r.cities.length<;>cases e3:wi r.usances[k].days 1 20000<;>cases e4:fl k (mJ r k)<;>simp[e1,e2,e3,e4] at ho ⊢
  obtain⟨a1,a2,a3,a4⟩:=ha;rw[oR] at a1 a2;simp[YV,IE,hk,tO _ (show r.cities.length<=4294967296 by omega)];refine⟨_,cI _ _ _,?_⟩;simp[a1,tO _ (show r.cities.length<=4294967296 by omega)];refine⟨_,cI _ _ _,?_⟩;simp[a2];refine⟨_,cI _ _ _,?_⟩;simp[a3];refine gM k (mJ r k) (λj=>[.int 0,.int j]) (λ_=>[]) ?_ (λj hj fR=>?_) (λj hj fR eI=>?_) (λm6=>?_)
  .simp
  .have zW:=be hj (by omega);have br:j<r.usances.length:=by omega
   simp[mJ,br,hk] at fR;simp[P4,D3,hj,br,hk,zW];intro e e';rcases fR with h|h
   .exact absurd e h
   .exact absurd e' h
  .rw[a4] at eI;cases eI
  .simp[P4,D3,hw]
 .simp[YV,IE,hk,hb,tO _ (show r.cities.length<=4294967296 by omega)];refine⟨_,cI _ _ _,?_⟩;unfold AY at ho ⊢;simp only[bn,cd hk,lj,oR] at ho ⊢;cases e1:wi r.usances[k].fr 0 ((r.cities.length:Int)-1)
  .simp
  simp[tO _ (show r.cities.length<=4294967296 by omega)];refine⟨_,cI _ _ _,?_⟩;cases e2:wi r.usances[k].to 0 ((r.cities.length:Int)-1)
  .simp
  simp;refine⟨_,cI _ _ _,?_⟩;cases e3:wi r.usances[k].days 1 20000
  .simp
  simp[e1,e2,e3] at ho;simp;refine gM k (mJ r k) (λj=>[.int 0,.int j]) (λ_=>[]) ?_ (λj hj fR=>?_) (λj hj fR eI=>?_) (λm6=>?_)
  .simp
  .have zW:=be hj (by omega);have br:j<r.usances.length:=by omega
   simp[mJ,br,hk] at fR;simp[P4,D3,hj,br,hk,zW];intro e e';rcases fR with h|h
   .exact absurd e h
   .exact absurd e' h
  .have br:j<r.usances.length:=by omega
   simp[mJ,br,hk] at fR;simp[P4,D3,hj,br,hk,ho]
   first|exact fR|simp[fR]
  .rw[m6] at ho;cases ho
 .simp[YV,IE,hj]
def xY (r:Realm)(k:Nat):Bool:=aB (r.rates.getD k default).fr r.currencies.length&&aB (r.rates.getD k default).to r.currencies.length&&((r.rates.getD k default).fr !=(r.rates.getD k default).to)&&
 wi (r.rates.getD k default).num 1 1073741824&&wi (r.rates.getD k default).den 1 1073741824&&wi (r.rates.getD k default).since 0 100000
def wJ (r:Realm)(k:Nat):Bool:=aB (r.halts.getD k default).order r.orders.length&&wi (r.halts.getD k default).fr 0 (r.halts.getD k default).to&&decide ((r.halts.getD k default).to<=100000)
def nA (r:Realm):Int:=if 100<r.rates.length then 6 else if fl r.rates.length (xY r)=false then 1 else if 20<r.halts.length then 6 else if fl r.halts.length (wJ r) then 0 else 1
def N5 {n:Int}(h:aX n)(m:Int)(hm:0<=m/\m<=4294967296):aB (i64.wrap (n-1)) m=wi n 1 m:=by
 unfold aX at h;by_cases e:n=-9223372036854775808
 .subst e;have:i64.wrap (-9223372036854775808-1)=9223372036854775807:=by decide
  rw[this,tP];simp[aB,wi];omega
 .rw[ax (by omega),tP];simp[aB,wi];omega
def ahG (n:Int):aB n 100001=wi n 0 100000:=by rw[tP];simp[aB,wi];omega
def aB0 (r:Realm)(h:Small r):ah T 62 [aR r] (.int (nA r)):=by
 refine zyt 77 aGf ?_;have hu:=h.rates;have hh:=h.halts;simp[acN,nA];by_cases h0:100<r.rates.length
 .have eH:(100:Int)<r.rates.length:=by omega
  have zp:¬r.rates.length<=100:=by omega
  simp[h0,eH,zp]
 have eH:¬(100:Int)<r.rates.length:=by omega
 simp[h0,eH];have key:∀k (hk:k<r.rates.length),∀{Z:Env} {Q:Out->Prop},True:=λ_ _ _ _=>trivial;refine gM r.rates.length (xY r) (λk=>[.int 0,.int k]) (λ_=>[]) ?_ (λk hk ho=>?_) (λk hk ho hb=>?_) (λhj=>?_)
 .simp
 .have hw:=be hk (by omega);have hI:=h.rate _ (bR hk);simp[xY,hk] at ho;obtain⟨⟨⟨⟨⟨a1,a2⟩,a3⟩,a4⟩,a5⟩,a6⟩:=ho;simp[Zq,I2,hk];refine⟨_,gu _ _,?_⟩;simp[a1];refine⟨_,gu _ _,?_⟩;simp[a2,a3];refine⟨_,gu _ _,?_⟩;simp[N5 hI.1,a4];refine⟨_,gu _ _,?_⟩;simp[N5 hI.2,a5];refine⟨_,gu _ _,?_⟩;simp[ahG,a6,hw]
 .have hI:=h.rate _ (bR hk);rw[hb];simp[xY,hk] at ho;simp[Zq,I2,hk];refine⟨_,gu _ _,?_⟩;cases e1:aB r.rates[k].fr r.currencies.length
  .simp
  simp;refine⟨_,gu _ _,?_⟩;cases e2:aB r.rates[k].to r.currencies.length
  .simp
  by_cases e3:r.rates[k].fr=r.rates[k].to
  .simp[e3]
  simp[e3];refine⟨_,gu _ _,?_⟩;rw[N5 hI.1 _ (by omega)];cases e4:wi r.rates[k].num 1 1073741824
  .simp
  simp;refine⟨_,gu _ _,?_⟩;rw[N5 hI.2 _ (by omega)];cases e5:wi r.rates[k].den 1 1073741824
  .simp
  simp;refine⟨_,gu _ _,?_⟩;rw[ahG];simp[ho e1 e2 e3 e4 e5]
 .rw[hj];simp[Zq,I2];by_cases h1:20<r.halts.length
  .have cu:(20:Int)<r.halts.length:=by omega
   have T4:¬r.halts.length<=20:=by omega
   simp[h1,cu,T4]
  have cu:¬(20:Int)<r.halts.length:=by omega
  simp[h1,cu];refine gM r.halts.length (wJ r) (λk=>[.int 0,.int k]) (λ_=>[]) ?_ (λk hk ho=>?_) (λk hk ho hb=>?_) (λhj=>?_)
  .simp
  .have hw:=be hk (by omega);simp[wJ,wi,hk] at ho;obtain⟨⟨a1,a2⟩,a3⟩:=ho;have b1:¬r.halts[k].fr<0:=by omega
   have b2:¬r.halts[k].to<r.halts[k].fr:=by omega
   have b3:¬100000<r.halts[k].to:=by omega
   simp[Zr,I3,hk];refine⟨_,gu _ _,?_⟩;simp[a1,b1,b2,b3,hw]
  .rw[hb];simp[wJ,wi,hk] at ho;simp[Zr,I3,hk];refine⟨_,gu _ _,?_⟩;cases e1:aB r.halts[k].order r.orders.length
   .simp
   have:=ho e1;by_cases b1:r.halts[k].fr<0
   .simp[b1]
   by_cases b2:r.halts[k].to<r.halts[k].fr
   .simp[b1,b2]
   have b3:100000<r.halts[k].to:=this (by omega) (by omega);simp[b1,b2,b3]
  .rw[hj];simp[Zr,I3]
def aA5 (r:Realm)(h:Small r):ah T 197 [aR r] (.int (nA r)):=by
 refine zyt 202 aEZ ?_;have hu:=h.rates;have hh:=h.halts;have hc:=tO r.currencies.length (by have:=h.cur;omega);have hor:=tO r.orders.length (by have:=h.orders;omega);simp[abK,nA];by_cases h0:100<r.rates.length
 .have eH:(100:Int)<r.rates.length:=by omega
  have zp:¬r.rates.length<=100:=by omega
  simp[h0,eH,zp]
 have eH:¬(100:Int)<r.rates.length:=by omega
 simp[h0,eH];refine gM r.rates.length (xY r) (λk=>[.int 0,.int k]) (λ_=>[]) ?_ (λk hk ho=>?_) (λk hk ho hb=>?_) (λhj=>?_)
 .simp
 .have hw:=be hk (by omega);simp[xY,hk,oR] at ho;obtain⟨⟨⟨⟨⟨a1,a2⟩,a3⟩,a4⟩,a5⟩,a6⟩:=ho;simp[YT,IC,hk,hc];refine⟨_,cI _ _ _,?_⟩;simp[a1,hc];refine⟨_,cI _ _ _,?_⟩;simp[a2,a3];refine⟨_,cI _ _ _,?_⟩;simp[a4];refine⟨_,cI _ _ _,?_⟩;simp[a5];refine⟨_,cI _ _ _,?_⟩;simp[a6,hw]
 .rw[hb];simp[xY,hk,oR] at ho;simp[YT,IC,hk,hc];refine⟨_,cI _ _ _,?_⟩;cases e1:wi r.rates[k].fr 0 ((r.currencies.length:Int)-1)
  .simp
  simp[hc];refine⟨_,cI _ _ _,?_⟩;cases e2:wi r.rates[k].to 0 ((r.currencies.length:Int)-1)
  .simp
  by_cases e3:r.rates[k].fr=r.rates[k].to
  .simp[e3]
  simp[e3];refine⟨_,cI _ _ _,?_⟩;cases e4:wi r.rates[k].num 1 1073741824
  .simp
  simp;refine⟨_,cI _ _ _,?_⟩;cases e5:wi r.rates[k].den 1 1073741824
  .simp
  simp;refine⟨_,cI _ _ _,?_⟩;simp[ho e1 e2 e3 e4 e5]
 .rw[hj];simp[YT,IC];by_cases h1:20<r.halts.length
  .have cu:(20:Int)<r.halts.length:=by omega
   have T4:¬r.halts.length<=20:=by omega
   simp[h1,cu,T4]
  have cu:¬(20:Int)<r.halts.length:=by omega
  simp[h1,cu];refine gM r.halts.length (wJ r) (λk=>[.int 0,.int k]) (λ_=>[]) ?_ (λk hk ho=>?_) (λk hk ho hb=>?_) (λhj=>?_)
  .simp
  .have hw:=be hk (by omega);simp[wJ,hk,oR] at ho;obtain⟨⟨a1,a2⟩,a3⟩:=ho;have b3:¬100000<r.halts[k].to:=by omega
   simp[YU,ID,hk,hor];refine⟨_,cI _ _ _,?_⟩;simp[a1];refine⟨_,cI _ _ _,?_⟩;simp[a2,b3,hw]
  .rw[hb];simp[wJ,hk,oR] at ho;simp[YU,ID,hk,hor];refine⟨_,cI _ _ _,?_⟩;cases e1:wi r.halts[k].order 0 ((r.orders.length:Int)-1)
   .simp
   simp;refine⟨_,cI _ _ _,?_⟩;cases e2:wi r.halts[k].fr 0 r.halts[k].to
   .simp
   simp[ho e1 e2]
  .rw[hj];simp[YU,ID]
def fO:List Int->Int
 |[]=>0
 |x::l=>if x=0 then fO l else x
def Jw:∀{l:List Int},fO l=0↔∀x,x∈l->x=0
 |[]=>by simp[fO]
 |x::l=>by
  simp only[fO,dG,forall_eq_or_imp];by_cases h:x=0
  .simp[h,Jw (l:=l)]
  .simp[h]
def ox (r:Realm)(i:Nat):Bool:=aB (r.firms.getD i default).city r.cities.length&&aB (r.firms.getD i default).group r.groups.length
def nU (r:Realm)(i:Nat):Bool:=mU r (r.cities.getD i default)
def oZ (r:Realm)(i:Nat):Bool:=qh (r.orders.getD i default)
def zo (r:Realm)(i:Nat):Bool:=aB (r.groups.getD i default).grade 10
def wG (r:Realm):Int:=if 20<r.groups.length then 6 else if fl r.groups.length (zo r) then 0 else 1
def cT (r:Realm):Int:=fO [eG r.currencies 8 (λ_=>true),eG (fA r) 40 (nU r),wG r,eG (fB r) 200 (ox r),eG (fC r) 20 (oZ r),yw r,nA r]
def aqd (i:Int):ah T 54 [.int i] (.bool true):=by
 refine zyt 69 aF2 ?_;simp[acB]
def aqe (r:Realm)(h:Small r)(i:Nat)(hi:i<r.cities.length):ah T 55 [.int i,.ref (aR r)] (.bool (nU r i)):=by
 refine zyt 70 aF3 ?_;obtain⟨h1,h2,h3,h4⟩:=h.city _ (bR hi);simp[acC,hi,nU];exact aBV r r.cities[i] (by omega) (by omega) (by omega)
def aqf (r:Realm)(i:Nat)(hi:i<r.firms.length):ah T 58 [.int i,.ref (aR r)] (.bool (ox r i)):=by
 refine zyt 73 aF4 ?_;simp[acD,hi,ox];refine⟨_,gu _ _,?_⟩;simp[hi];cases e1:aB r.firms[i].city r.cities.length<;>simp;exact gu _ _
def aqg (r:Realm)(h:Small r)(i:Nat)(hi:i<r.orders.length):ah T 59 [.int i,.ref (aR r)] (.bool (oZ r i)):=by
 refine zyt 74 aF5 ?_;obtain⟨h1,h2⟩:=h.order _ (bR hi);simp[acE,hi,oZ];exact aBZ r.orders[i] (by omega) (by omega)
def Jm (r:Realm)(h:Small r):ah T 14 [aR r] (.int (cT r)):=by
 refine zyt 62 aF6 ?_;have g1:=h.cur;have g2:=h.cities;have g3:=h.firms;have g4:=h.orders;have g5:=h.groups;simp[acA];refine⟨_,aBY r (by omega) (by omega) (by omega),?_⟩;simp;refine⟨_,Qo r.currencies 8 54 [] (λ_=>true) (λi _=>aqd _) (by omega),?_⟩;unfold cT;generalize e1:eG r.currencies 8 (λ_=>true)=x1;by_cases z1:x1=0
 case neg=>simp[z1,fO]
 simp[z1,fO];refine⟨_,Qo (fA r) 40 55 [.ref (aR r)] (nU r) (λi hi=>aqe r h i (by simpa [fA] using hi)) (by simp[fA];omega),?_⟩;generalize e2:eG (fA r) 40 (nU r)=x2;by_cases z2:x2=0
 case neg=>simp[z2]
 simp[z2];by_cases z3:20<r.groups.length
 .have z3':(20:Int)<r.groups.length:=by omega
  simp[z3',wG,z3]
 have z3':¬(20:Int)<r.groups.length:=by omega
 simp[z3',wG,z3];refine gM r.groups.length (zo r) (λk=>[.int 0,.int k]) (λ_=>[]) ?_ (λk hk ho=>?_) (λk hk ho hb=>?_) (λhj=>?_)
 .simp
 .have hw:=be hk (by omega);simp[zo,hk] at ho;simp[Zl,IX,hk];refine⟨_,gu _ _,?_⟩;simp[ho,hw]
 .simp[zo,hk] at ho;rw[hb];simp[Zl,IX,hk];refine⟨_,gu _ _,?_⟩;simp[ho]
 .rw[hj];simp[Zl,IX];refine⟨_,Qo (fB r) 200 58 [.ref (aR r)] (ox r) (λi hi=>aqf r i (by simpa [fB] using hi)) (by simp[fB];omega),?_⟩;generalize e4:eG (fB r) 200 (ox r)=x4;by_cases z4:x4=0
  case neg=>simp[z4]
  simp[z4];refine⟨_,Qo (fC r) 20 59 [.ref (aR r)] (oZ r) (λi hi=>aqg r h i (by simpa [fC] using hi)) (by simp[fC];omega),?_⟩;generalize e5:eG (fC r) 20 (oZ r)=x5;by_cases z5:x5=0
  case neg=>simp[z5]
  simp[z5];refine⟨_,aB1 r h,?_⟩;generalize e6:yw r=x6;by_cases z6:x6=0
  case neg=>simp[z6]
  simp[z6];have e7:(if nA r=0 then 0 else nA r)=nA r:=by split<;>simp_all
  rw[e7];exact aB0 r h
def ar6 (l:List ByteArray)(k:Nat):kH l (λ_=>true) k=ix l k:=by
 unfold kH;by_cases h:ix l k=0<;>simp[h]
def zl {l:List ByteArray}{g:Nat->Bool}{k:Nat}(h:kH l g k=0):ix l k=0/\g k=true:=by
 unfold kH at h;by_cases h1:ix l k=0
 .simp[h1] at h;exact⟨h1,h⟩
 .simp[h1] at h
def TV {l:List ByteArray}{g:Nat->Bool}{k:Nat}(h:kH l g k≠0):(ix l k≠0/\kH l g k=ix l k)\/(ix l k=0/\g k=false/\kH l g k=1):=by
 unfold kH at h ⊢;by_cases h1:ix l k=0
 .simp[h1] at h ⊢;simp[h]
 .simp[h1]
def aA2 (r:Realm)(h:Small r):ah T 193 [aR r] (.int (fO [eG r.currencies 8 (λ_=>true),eG (fA r) 40 (nU r)])):=by
 refine zyt 191 aEV ?_;have g1:=h.cur;have g2:=h.cities;have g4:=h.orders;simp[abG];unfold eG;by_cases z1:(8:Int)<r.currencies.length
 .simp[z1,fO]
 simp[z1,fO];refine pB r.currencies.length (kH r.currencies (λ_=>true)) (λk=>[.int 0,.int k]) (λ_=>[]) ?_ (λk hk ho=>?_) (λk hk ho hb=>?_) (λhj=>?_)
 .simp
 .have hw:=be hk (by omega);simp[YO,Ix,hk];refine⟨_,H2 _ k hk (by omega),?_⟩;simp[(zl ho).1,hw]
 .rw[hb];simp[YO,Ix,hk,ho];rw[ar6];exact H2 _ k hk (by omega)
 .rw[hj];simp[YO,Ix];have hlen:(fA r).length=r.cities.length:=by simp[fA]
  rw[hlen];by_cases z2:(40:Int)<r.cities.length
  .simp[z2]
  simp[z2];have key:∀k (hk:k<r.cities.length),((fA r).take k).length=k/\D.list (List.take k (List.map str (fA r))++[str r.cities[k].name])=strs ((fA r).take (k+1))/\
     ah T 229 [strs ((fA r).take (k+1)),.int k] (.int (ix (fA r) k))/\ah T 230 [aR r,ga r.cities[k]] (.bool (nU r k)):=by
   intro k hk;have bu:k<(fA r).length:=by omega
   have hg:(fA r)[k]=r.cities[k].name:=by simp[fA]
   have hs:(fA r).take (k+1)=(fA r).take k++[(fA r)[k]]:=gA bu;have hn:=H2 ((fA r).take (k+1)) k (by rw[eQ];omega) (by rw[eQ];omega);rw[V7 _ _ _ (by omega)] at hn;obtain⟨c1,c2,c3,c4⟩:=h.city _ (bR hk);have hc:=aA0 r r.cities[k] (by omega) (by omega) (by omega) (by omega) (by omega) c4;rw[aqm] at hc;exact⟨by rw[eQ];omega,by rw[hs,hg];simp[strs],hn,by simpa [nU,hk] using hc⟩
  refine pB r.cities.length (kH (fA r) (nU r)) (λk=>[.int 0,.none,.int k]) (λk=>[strs ((fA r).take k)]) ?_ (λk hk ho=>?_) (λk hk ho hb=>?_) (λhj=>?_)
  .simp[strs]
  .have hw:=be hk (by omega);obtain⟨hl,ei,hn,hc⟩:=key k hk;obtain⟨o1,o2⟩:=zl ho;rw[o1] at hn;rw[o2] at hc;simp[YP,Iy,hk,hl,ei,aCX];refine⟨by omega,_,hn,?_⟩;simp[hk];refine⟨_,hc,?_⟩;simp[hw]
  .rw[hb];obtain⟨hl,ei,hn,hc⟩:=key k hk;simp[YP,Iy,hk,hl,ei,ho];refine⟨by omega,_,hn,?_⟩;rcases TV ho with⟨o1,o2⟩|⟨o1,o2,o3⟩
   .simp[o1,o2]
   .rw[o2] at hc;simp[o1,o3,hk];refine⟨_,hc,?_⟩;simp
  .rw[hj];simp[YP,Iy]
def aA3 (r:Realm)(h:Small r):ah T 194 [aR r] (.int (fO [wG r,eG (fB r) 200 (ox r)])):=by
 refine zyt 198 aEW ?_;have g1:=h.groups;have g2:=h.firms;have g3:=h.cities;have w3:=tO r.cities.length (by omega);have w1:=tO r.groups.length (by omega);simp[abH];by_cases z1:20<r.groups.length
 .have z1':(20:Int)<r.groups.length:=by omega
  simp[z1',wG,z1,fO]
 have z1':¬(20:Int)<r.groups.length:=by omega
 simp[z1',wG,z1,fO];refine gM r.groups.length (zo r) (λk=>[.int 0,.int k]) (λ_=>[]) ?_ (λk hk ho=>?_) (λk hk ho hb=>?_) (λhj=>?_)
 .simp
 .have hw:=be hk (by omega);simp[zo,hk] at ho;have e:wi r.groups[k].grade 0 9=aB r.groups[k].grade 10:=by rw[tP];simp[wi,aB];omega
  simp[YQ,Iz,hk];refine⟨_,cI _ _ _,?_⟩;simp[e,ho,hw]
 .simp[zo,hk] at ho;have e:wi r.groups[k].grade 0 9=aB r.groups[k].grade 10:=by rw[tP];simp[wi,aB];omega
  rw[hb];simp[YQ,Iz,hk];refine⟨_,cI _ _ _,?_⟩;simp[e,ho]
 .rw[hj];simp[YQ,Iz];unfold eG;have hlen:(fB r).length=r.firms.length:=by simp[fB]
  rw[hlen];by_cases z2:(200:Int)<r.firms.length
  .simp[z2]
  simp[z2];have key:∀k (hk:k<r.firms.length),((fB r).take k).length=k/\D.list (List.take k (List.map str (fB r))++[str r.firms[k].name])=strs ((fB r).take (k+1))/\
     ah T 229 [strs ((fB r).take (k+1)),.int k] (.int (ix (fB r) k))/\ox r k=(wi r.firms[k].city 0 ((r.cities.length:Int)-1)&&wi r.firms[k].group 0 ((r.groups.length:Int)-1)):=by
   intro k hk;have bu:k<(fB r).length:=by omega
   have hg:(fB r)[k]=r.firms[k].name:=by simp[fB]
   have hs:(fB r).take (k+1)=(fB r).take k++[(fB r)[k]]:=gA bu;have hn:=H2 ((fB r).take (k+1)) k (by rw[eQ];omega) (by rw[eQ];omega);rw[V7 _ _ _ (by omega)] at hn;exact⟨by rw[eQ];omega,by rw[hs,hg];simp[strs],hn,by simp[ox,hk,oR]⟩
  refine pB r.firms.length (kH (fB r) (ox r)) (λk=>[.int 0,.none,.int k]) (λk=>[strs ((fB r).take k)]) ?_ (λk hk ho=>?_) (λk hk ho hb=>?_) (λhj=>?_)
  .simp[strs]
  .have hw:=be hk (by omega);obtain⟨hl,ei,hn,hc⟩:=key k hk;obtain⟨o1,o2⟩:=zl ho;rw[o1] at hn;rw[o2] at hc;have mY:=Bool.and_eq_true_iff.1 hc.symm;simp[YR,IA,hk,hl,ei];refine⟨by omega,_,hn,?_⟩;simp[hk,w3];refine⟨_,cI _ _ _,?_⟩;simp[mY.1,hk,w1];refine⟨_,cI _ _ _,?_⟩;simp[mY.2,hw]
  .rw[hb];obtain⟨hl,ei,hn,hc⟩:=key k hk;simp[YR,IA,hk,hl,ei,ho];refine⟨by omega,_,hn,?_⟩;rcases TV ho with⟨o1,o2⟩|⟨o1,o2,o3⟩
   .simp[o1,o2]
   .rw[o2] at hc;simp[o1,o3,hk,w3];refine⟨_,cI _ _ _,?_⟩;cases e1:wi r.firms[k].city 0 ((r.cities.length:Int)-1)
    .simp
    rw[e1,yJ] at hc;simp[hk,w1];refine⟨_,cI _ _ _,?_⟩;simp[<-hc]
  .rw[hj];simp[YR,IA]
def aA4 (r:Realm)(h:Small r):ah T 195 [aR r] (.int (eG (fC r) 20 (oZ r))):=by
 refine zyt 199 aEY ?_;have g2:=h.orders;simp[abJ];unfold eG;have hlen:(fC r).length=r.orders.length:=by simp[fC]
 rw[hlen];by_cases z2:(20:Int)<r.orders.length
 .simp[z2]
 simp[z2];have key:∀k (hk:k<r.orders.length),((fC r).take k).length=k/\D.list (List.take k (List.map str (fC r))++[str r.orders[k].name])=strs ((fC r).take (k+1))/\
  ah T 229 [strs ((fC r).take (k+1)),.int k] (.int (ix (fC r) k))/\ah T 231 [iu r.orders[k]] (.bool (oZ r k)):=by
  intro k hk;have bu:k<(fC r).length:=by omega
  have hg:(fC r)[k]=r.orders[k].name:=by simp[fC]
  have hs:(fC r).take (k+1)=(fC r).take k++[(fC r)[k]]:=gA bu;have hn:=H2 ((fC r).take (k+1)) k (by rw[eQ];omega) (by rw[eQ];omega);rw[V7 _ _ _ (by omega)] at hn;obtain⟨c1,c2⟩:=h.order _ (bR hk);exact⟨by rw[eQ];omega,by rw[hs,hg];simp[strs],hn,by simpa [oZ,hk] using aA1 r.orders[k] (by omega) (by omega)⟩
 refine pB r.orders.length (kH (fC r) (oZ r)) (λk=>[.int 0,.none,.int k]) (λk=>[strs ((fC r).take k)]) ?_ (λk hk ho=>?_) (λk hk ho hb=>?_) (λhj=>?_)
 .simp[strs]
 .have hw:=be hk (by omega);obtain⟨hl,ei,hn,hc⟩:=key k hk;obtain⟨o1,o2⟩:=zl ho;rw[o1] at hn;rw[o2] at hc;simp[YS,IB,hk,hl,ei];refine⟨by omega,_,hn,?_⟩;simp[hk];refine⟨_,hc,?_⟩;simp[hw]
 .rw[hb];obtain⟨hl,ei,hn,hc⟩:=key k hk;simp[YS,IB,hk,hl,ei,ho];refine⟨by omega,_,hn,?_⟩;rcases TV ho with⟨o1,o2⟩|⟨o1,o2,o3⟩
  .simp[o1,o2]
  .rw[o2] at hc;simp[o1,o3,hk];refine⟨_,hc,?_⟩;simp
 .rw[hj];simp[YS,IB]
def aAX (r:Realm)(h:Small r):ah T 141 [aR r] (.int (cT r)):=by
 refine zyt 190 aEK ?_
 have e:cT r=fO [fO [eG r.currencies 8 (λ_=>true),eG (fA r) 40 (nU r)],fO [wG r,eG (fB r) 200 (ox r)],eG (fC r) 20 (oZ r),yw r,nA r]:=by
  unfold cT;simp only[fO];split<;>(try split)<;>(try split)<;>(try split)<;>simp_all
 rw[e];simp[abw];refine⟨_,aA2 r h,?_⟩;have h1:=aA3 r h;generalize fO [eG r.currencies 8 (λ_=>true),eG (fA r) 40 (nU r)]=x1 at*;generalize fO [wG r,eG (fB r) 200 (ox r)]=x2 at*;have h2:=aA4 r h;generalize eG (fC r) 20 (oZ r)=x3 at*;have h3:=aA6 r h;generalize yw r=x4 at*;have h4:=aA5 r h;generalize nA r=x5 at*;by_cases z1:x1=0
 case neg=>simp[z1,fO]
 simp[z1,fO];refine⟨_,h1,?_⟩;by_cases z2:x2=0
 case neg=>simp[z2]
 simp[z2];refine⟨_,h2,?_⟩;by_cases z3:x3=0
 case neg=>simp[z3]
 simp[z3];refine⟨_,h3,?_⟩;by_cases z4:x4=0
 case neg=>simp[z4]
 simp[z4];have e7:(if x5=0 then 0 else x5)=x5:=by split<;>simp_all
 rw[e7];exact h4
def gx:Nat->Tm->Int->Int
 |0,_,_=>-1
 |L+1,t,n=>t.args.foldl (λm a=>if 0<=m then gx L a m else m) (n-1)
def size_le:∀(L:Nat) (t:Tm) (n:Int),0<=n->-1<=gx L t n/\gx L t n<=n
 |0,t,n,h=>by simp[gx];omega
 |L+1,t,n,h=>by
  have key:∀(l:List Tm) (m:Int),-1<=m->m<=n->-1<=l.foldl (λm a=>if 0<=m then gx L a m else m) m/\l.foldl (λm a=>if 0<=m then gx L a m else m) m<=n:=by
   intro l
   induction l with
   |nil=>intro m h1 h2;exact⟨h1,h2⟩
   |cons a l ih=>
    intro m h1 h2;simp only[A8];split
    .rename_i hm;have:=size_le L a m hm;exact ih _ this.1 (by omega)
    .exact ih _ h1 h2
  exact key _ _ (by omega) (by omega)
def QF (L:Nat):∀(l:List Tm) (m:Int),m<0->l.foldl (λm a=>if 0<=m then gx L a m else m) m=m
 |[],m,h=>rfl
 |a::l,m,h=>by simp only[A8];rw[if_neg (by omega)];exact QF L l m h
def atA {α β:Type}(f:β->α->β)(b:β){l:List α}{k:Nat}(h:k<l.length):(l.take (k+1)).foldl f b=f ((l.take k).foldl f b) l[k]:=by
 rw[gA h,rX];rfl
def atz {α β:Type}(f:β->α->β)(b:β)(l:List α)(k:Nat):l.foldl f b=(l.drop k).foldl f ((l.take k).foldl f b):=by
 rw[<-rX,RB]
def _root_.Cx.Tm.OK.len {t:Tm}(h:t.OK):t.args.length<=9223372036854775807:=by cases h with|mk o n xs h1 h2 h3 h4=>exact h3
def _root_.Cx.Tm.OK.arg {t:Tm}(h:t.OK){a:Tm}(ha:a∈t.args):a.OK:=by cases h with|mk o n xs h1 h2 h3 h4=>exact h4 a ha
def Yd:∀(L:Nat) (t:Tm) (n:Int),t.OK->0<=n->n<=1000->L<=1000->ah T 159 [dx t,.int n,.int L] (.int (gx L t n))
 |0,t,n,ht,h0,h1,hL=>by
  refine .of_tree rfl aeL anO ?_;simp[Q6,gx]
 |L+1,t,n,ht,h0,h1,hL=>by
  refine .of_tree rfl aeL anO ?_;have xj:i64.wrap (n-1)=n-1:=ax (by omega);have hl:=ht.len;have oL:¬((L:Int)+1<1):=by omega
  simp[Q6,xj,oL]
  let g:Nat->Int:=λk=>(t.args.take k).foldl (λm a=>if 0<=m then gx L a m else m) (n-1)
  have gb:∀k,-1<=g k/\g k<=1000:=by
   intro k;have:g k=gx (L+1) (.mk 0 0 (t.args.take k)) n:=rfl;have:=size_le (L+1) (.mk 0 0 (t.args.take k)) n h0;omega
  refine .scan t.args.length (λk=>0<=g k) (λk=>[.int (g k),.int k]) (λ_=>[]) ?_ (λk hk hj ho=>?_) (λk hk hj ho=>?_) (λhj=>?_)
  .simp[g,xj]
  .have hw:i64.wrap ((k:Int)+1)=(k:Int)+1:=ax (by omega);have zX:i64.wrap (L:Int)=(L:Int):=ax (by omega);have hg:g (k+1)=gx L t.args[k] (g k):=by
    show(t.args.take (k+1)).foldl _ _=_;rw[atA _ _ hk];show(if 0<=g k then _ else _)=_;rw[if_pos ho]
   rw[hg];have fK:=Yd L t.args[k] (g k) (ht.arg (bR hk)) ho (gb k).2 (by omega);generalize g k=m at*;simp[Zc,IN,hk,ho,zX];refine⟨_,fK,?_⟩;simp[hw]
  .have hf:gx (L+1) t n=g k:=by
    show t.args.foldl _ _=_;rw[atz _ _ _ k];exact QF L _ _ (by show g k<0;omega)
   rw[hf];generalize g k=m at*;simp[Zc,IN,hk,ho]
  .have hf:gx (L+1) t n=g t.args.length:=by
    show t.args.foldl _ _=(t.args.take t.args.length).foldl _ _;rw[yO]
   rw[hf];generalize g t.args.length=m at*;simp[Zc,IN]
def aml (t:Tm)(ht:t.OK):ah T 101 [dx t] (.bool (decide (0<=gx 20 t 100))):=by
 refine zyt 116 aFl ?_;simp[ab0];refine⟨_,Yd 20 t 100 ht (by omega) (by omega) (by omega),?_⟩;simp
def sv (o:Order):Bool:=(decide (o.rules.length<=60)&&decide (o.choices.length<=60))&&fl o.rules.length (λk=>decide (0<=gx 20 (o.rules.getD k default).term 100))
def amq (o:Order)(ho:o.OK):ah T 51 [iu o] (.bool (sv o)):=by
 refine zyt 115 aFy ?_;simp[ab6];by_cases h1:(o.rules.length:Int)<=60
 case neg=>
  have cu:(60:Int)<o.rules.length:=by omega
  have hf:sv o=false:=by
   have:decide (o.rules.length<=60)=false:=decide_eq_false (by omega);simp only[sv,this,tQ]
  simp[cu,hf]
 by_cases h2:(o.choices.length:Int)<=60
 case neg=>
  have cu:(60:Int)<o.choices.length:=by omega
  have hf:sv o=false:=by
   have:decide (o.choices.length<=60)=false:=decide_eq_false (by omega);simp only[sv,this,tQ,A2]
  simp[cu,hf]
 have cu:¬(60:Int)<o.rules.length:=by omega
 have gf:¬(60:Int)<o.choices.length:=by omega
 have hf:sv o=fl o.rules.length (λk=>decide (0<=gx 20 (o.rules.getD k default).term 100)):=by
  have e1:decide (o.rules.length<=60)=true:=decide_eq_true (by omega);have e2:decide (o.choices.length<=60)=true:=decide_eq_true (by omega);simp only[sv,e1,e2,yJ]
 rw[hf];simp[cu,gf];have hO:=ho.2.2;refine gM o.rules.length (λk=>decide (0<=gx 20 (o.rules.getD k default).term 100)) (λk=>[.bool false,.int k]) (λ_=>[]) ?_ (λk hk ho=>?_) (λk hk ho hb=>?_) (λhj=>?_)
 .simp
 .have hw:=be hk (by omega);simp[hk] at ho;simp[Ze,IQ,hk];refine⟨_,aml _ (hO _ (bR hk)).2,?_⟩;simp[ho,hw]
 .simp only[bn] at hb;rw[hb];simp[hk] at ho;simp[Ze,IQ,hk];refine⟨_,aml _ (hO _ (bR hk)).2,?_⟩;simp[ho]
 .simp only[bn] at hj;rw[hj];simp[Ze,IQ]
def F5 (f:File):Bool:=decide ((f.signs.length:Int)<=50)&&decide ((f.alters.length:Int)<=10)&&decide ((f.acts.length:Int)<=110)&&decide ((f.facts.length:Int)<=220)
def aBh (f:File):ah T 50 [bQ f] (.bool (F5 f)):=by
 refine zyt 114 aFb ?_;simp[abU,F5];by_cases h1:(f.signs.length:Int)<=50<;>by_cases h2:(f.alters.length:Int)<=10<;>by_cases h3:(f.acts.length:Int)<=110<;>by_cases h4:(f.facts.length:Int)<=220<;>
  simp[h1,h2,h3,h4]
def F3 (r:Realm)(k:Nat):Bool:=decide (((r.cities.getD k default).feasts.length:Int)<=70)&&decide (((r.cities.getD k default).shut.length:Int)<=210)&&decide (((r.cities.getD k default).rest.length:Int)<=8)
def F4 (r:Realm)(k:Nat):Bool:=decide (((r.orders.getD k default).choices.length:Int)<=40)&&decide (((r.orders.getD k default).rules.length:Int)<=40)
def M3 (r:Realm):Bool:=decide ((r.currencies.length:Int)<50)&&decide ((r.cities.length:Int)<50)&&decide ((r.groups.length:Int)<50)&&decide ((r.firms.length:Int)<210)&&decide ((r.orders.length:Int)<50)&&decide ((r.usances.length:Int)<110)&&decide ((r.rates.length:Int)<110)&&decide ((r.halts.length:Int)<50)
def qU (r:Realm):Bool:=fl (min r.cities.length 50) (F3 r)&&fl (min r.orders.length 50) (F4 r)&&M3 r
def aAY (r:Realm)(hr:r.OK):ah T 19 [aR r] (.bool (qU r)):=by
 refine zyt 113 aEL ?_;simp[abx];refine gM (min r.cities.length 50) (F3 r) (λk=>[.bool false,.int k]) (λ_=>[]) ?_ (λk hk ho=>?_) (λk hk ho hb=>?_) (λhj=>?_)
 .simp
 .have bC:k<r.cities.length:=by omega
  have dq:k<50:=by omega
  have hw:=be dq (by omega);simp[F3,bC] at ho;obtain⟨⟨a1,a2⟩,a3⟩:=ho;have b1:¬(70:Int)<r.cities[k].feasts.length:=by omega
  have b2:¬(210:Int)<r.cities[k].shut.length:=by omega
  have b3:¬(8:Int)<r.cities[k].rest.length:=by omega
  simp[Iq,AJ,bC,dq,hw,b1,b2,b3];omega
 .have bC:k<r.cities.length:=by omega
  have dq:k<50:=by omega
  have hf:qU r=false:=by simp only[qU,hb,tQ]
  rw[hf];simp[F3,bC] at ho;by_cases b1:(70:Int)<r.cities[k].feasts.length
  .simp[Iq,AJ,bC,dq,b1];omega
  by_cases b2:(210:Int)<r.cities[k].shut.length
  .simp[Iq,AJ,bC,dq,b1,b2];omega
  have b3:(8:Int)<r.cities[k].rest.length:=by have:=ho (by omega) (by omega);omega
  simp[Iq,AJ,bC,dq,b1,b2,b3];omega
 .have hn:¬((min r.cities.length 50:Nat):Int)<r.cities.length\/¬((min r.cities.length 50:Nat):Int)<50:=by omega
  simp[Iq,AJ];rw[if_neg (by omega)];refine gM (min r.orders.length 50) (F4 r) (λk=>[.bool false,.int k]) (λ_=>[]) ?_ (λk hk ho=>?_) (λk hk ho hb=>?_) (λGD=>?_)
  .simp
  .have bC:k<r.orders.length:=by omega
   have dq:k<50:=by omega
   have hw:=be dq (by omega);simp[F4,bC] at ho;obtain⟨a1,a2⟩:=ho;have b1:¬(40:Int)<r.orders[k].choices.length:=by omega
   have b2:¬(40:Int)<r.orders[k].rules.length:=by omega
   simp[P3,D2,bC,dq,hw,b1,b2];omega
  .have bC:k<r.orders.length:=by omega
   have dq:k<50:=by omega
   have hf:qU r=false:=by simp only[qU,hb,tQ,A2]
   rw[hf];simp[F4,bC] at ho;by_cases b1:(40:Int)<r.orders[k].choices.length
   .simp[P3,D2,bC,dq,b1];omega
   have b2:(40:Int)<r.orders[k].rules.length:=by have:=ho (by omega);omega
   simp[P3,D2,bC,dq,b1,b2];omega
  .have hf:qU r=M3 r:=by simp only[qU,hj,GD,yJ]
   rw[hf];simp[P3,D2];rw[if_neg (by omega)];unfold M3;by_cases c1:(r.currencies.length:Int)<50<;>simp[c1];by_cases c2:(r.cities.length:Int)<50<;>simp[c2];by_cases c3:(r.groups.length:Int)<50<;>simp[c3];by_cases c4:(r.firms.length:Int)<210<;>simp[c4];by_cases c5:(r.orders.length:Int)<50<;>simp[c5];by_cases c6:(r.usances.length:Int)<110<;>simp[c6];by_cases c7:(r.rates.length:Int)<110<;>simp[c7]
def TP {r:Realm}(hr:r.OK)(h:qU r=true):Small r:=by
 simp only[qU,M3,aA,decide_eq_true_eq,v8] at h;obtain⟨⟨h1,h2⟩,⟨⟨⟨⟨⟨⟨⟨c1,c2⟩,c3⟩,c4⟩,c5⟩,c6⟩,c7⟩,c8⟩⟩:=h;obtain⟨k1,⟨k2,k2'⟩,⟨k3,k3'⟩,⟨k4,k4'⟩,⟨k5,k5'⟩,⟨k6,k6'⟩,⟨k7,k7'⟩,⟨k8,k8'⟩⟩:=hr;refine⟨by omega,by omega,by omega,by omega,by omega,by omega,by omega,by omega,λc hc=>?_,λo ho=>?_,λx hx=>?_⟩
 .obtain⟨k,hk,rfl⟩:=gQ hc;have:=h1 k (by omega);simp[F3,hk] at this;have:=k2' _ hc;exact⟨by omega,by omega,by omega,λy hy=>this.2.2.2.1.2 y hy⟩
 .obtain⟨k,hk,rfl⟩:=gQ ho;have:=h2 k (by omega);simp[F4,hk] at this;omega
 .have:=k7' x hx;exact⟨this.2.2.1,this.2.2.2.1⟩
def su (r:Realm)(f:File):Bool:=(qU r&&F5 f)&&fl r.orders.length (λk=>sv (r.orders.getD k default))
def aBx (r:Realm)(f:File)(hr:r.OK):ah T 13 [aR r,bQ f] (.bool (su r f)):=by
 refine zyt 112 aFL ?_;simp[acj];refine⟨_,aAY r hr,?_⟩;cases e1:qU r
 .simp[su,e1]
 simp;refine⟨_,aBh f,?_⟩;cases e2:F5 f
 .simp[su,e1,e2]
 have hs:=TP hr e1;have ho:=hs.orders;have hf:su r f=fl r.orders.length (λk=>sv (r.orders.getD k default)):=by simp only[su,e1,e2,yJ]
 rw[hf];simp;have hO:=hr.2.2.2.2.1.2;refine gM r.orders.length (λk=>sv (r.orders.getD k default)) (λk=>[.bool false,.int k]) (λ_=>[]) ?_ (λk hk ho=>?_) (λk hk ho hb=>?_) (λhj=>?_)
 .simp
 .have hw:=be hk (by omega);simp[hk] at ho;simp[Zi,IU,hk];refine⟨_,amq _ (hO _ (bR hk)),?_⟩;simp[ho,hw]
 .simp only[bn] at hb;rw[hb];simp[hk] at ho;simp[Zi,IU,hk];refine⟨_,amq _ (hO _ (bR hk)),?_⟩;simp[ho]
 .simp only[bn] at hj;rw[hj];simp[Zi,IU]
def CQ (r:Realm)(f:File):Bool:=su r f&&decide (cT r=0)
def mc (n:Int):Int:=min (max n (-1099511627776)) 1099511627776
def QO (n:Int):ah T 252 [.int n] (.int (mc n)):=by
 refine zyt 44 aGL ?_;simp[adl,mc];by_cases h1:-1099511627776>n
 .have:¬(1099511627776:Int)< -1099511627776:=by omega
  simp[h1];omega
 .by_cases h2:(1099511627776:Int)<n
  .simp[h1,h2];omega
  .simp[h1,h2];omega
def kA (v:Int):Int×Bool:=if v<0\/19<v then(0,false) else if v<7 then(0,true) else(1,true)
def anJ (v:Int):ah T 250 [.int v] (.tup [.int (kA v).1,.bool (kA v).2]):=by
 refine zyt 45 aGH ?_;simp[adh,kA];by_cases h1:v<0
 .simp[h1]
 by_cases h2:19<v
 .simp[h1,h2]
 by_cases h3:v<7
 .simp[h1,h2,h3]
 .simp[h1,h2,h3]
def sT (t:Tm):Int×Int:=
 if 0<t.args.length then(0,2) else if t.op=0 then(if mc t.n≠t.n then(0,3) else(0,0)) else if t.op=1 then(if t.n<0\/1<t.n then(0,3) else(1,0)) else if(kA t.n).2=false then(0,10) else((kA t.n).1,0)
def aDa (t:Tm):ah T 248 [dx t] (.tup [.int (sT t).1,.int (sT t).2]):=by
 refine zyt 43 aGM ?_;simp[adm,sT];by_cases h0:0<t.args.length
 .have eH:(0:Int)<t.args.length:=by omega
  simp[h0,eH]
 simp[h0];by_cases h1:t.op=0
 .simp[h1];refine⟨_,QO _,?_⟩;by_cases h2:mc t.n=t.n<;>simp[h2]
 by_cases h2:t.op=1
 .simp[h1,h2];by_cases h3:t.n<0<;>by_cases h4:1<t.n<;>simp[h3,h4]
 simp[h1,h2];refine⟨_,anJ _,?_⟩;cases h3:(kA t.n).2<;>simp[h3]
def dL (op:Int):List Int×Int:=
 if op=3 then([1],1) else if op=4\/op=5 then([1,1],1) else if op=6 then([1,-1,-1],-1) else if op=7 then([0,0],1) else if op=8 then([-1,-1],1) else([0,0],0)
def F0 (s:List Int×Int):D:=.agg [ints s.1,.int s.2]
@[simp] def aJw (s:List Int×Int):(F0 s).cells=[ints s.1,.int s.2]:=zyw
@[simp] def aJu (s:List Int×Int):(F0 s).c 0=ints s.1:=zyw
@[simp] def aJv (s:List Int×Int):(F0 s).c 1=.int s.2:=zyw
@[simp] def aNH (s:List Int×Int):D.agg [ints s.1,.int s.2]=F0 s:=zyw
@[simp] def aOF (x y:Int):tG (.int x) 0 (.int y)=.int y:=zyw
def aDc (op:Int):ah T 249 [.int op] (F0 (dL op)):=by
 refine zyt 46 aGQ ?_;simp[adp,dL];by_cases h3:op=3
 .simp[h3];rfl
 by_cases h4:op=4
 .simp[h4];rfl
 by_cases h5:op=5
 .simp[h5];rfl
 by_cases h6:op=6
 .simp[h6];rfl
 by_cases h7:op=7
 .simp[h7];rfl
 by_cases h8:op=8
 .simp[h8];rfl
 simp[h3,h4,h5,h6,h7,h8];rfl
def dh (f:Tm->Int):List Tm->Int->Int
 |[],n=>n
 |a::l,n=>if 60<n+f a then n+f a else dh f l (n+f a)
def bz:Nat->Tm->Int
 |0,_=>61
 |L+1,t=>dh (bz L) t.args 1
def ej (f:Tm->Int)(l:List Tm):Int:=(l.map f).sum
def On {f:Tm->Int}{l:List Tm}{k:Nat}(h:k<l.length):ej f (l.take (k+1))=ej f (l.take k)+f l[k]:=by
 unfold ej;rw[El f h,List.sum_append];simp
def aix {f:Tm->Int}:∀{l:List Tm} {n:Int} {k:Nat},(hk:k<l.length)->(∀j,j<k->n+ej f (l.take (j+1))<=60)->60<n+ej f (l.take (k+1))->dh f l n=n+ej f (l.take (k+1))
 |a::l,n,0,hk,_,h=>by
  simp[ej] at h ⊢;unfold dh;rw[if_pos (by omega)]
 |a::l,n,k+1,hk,hj,h=>by
  have h0:=hj 0 (by omega);simp[ej] at h0;unfold dh;rw[if_neg (by omega)];have e:∀j,n+ej f ((a::l).take (j+1+1))=n+f a+ej f (l.take (j+1)):=by intro j;simp[ej];omega
  rw[aix (l:=l) (k:=k) (by simpa using hk) (λj zH=>by have:=hj (j+1) (by omega);rw[e] at this;exact this) (by rw[<-e];exact h),e]
def aiz {f:Tm->Int}:∀{l:List Tm} {n:Int},(∀j,j<l.length->n+ej f (l.take (j+1))<=60)->dh f l n=n+ej f l
 |[],n,_=>by simp[dh,ej]
 |a::l,n,hj=>by
  have h0:=hj 0 (by simp);simp[ej] at h0;unfold dh;rw[if_neg (by omega)];have e:∀j,n+ej f ((a::l).take (j+1+1))=n+f a+ej f (l.take (j+1)):=by intro j;simp[ej];omega
  rw[aiz (l:=l) (λj iT=>by have:=hj (j+1) (by simpa using iT);rw[e] at this;exact this)];simp[ej];omega
def aiy {f:Tm->Int}(hf:∀a,1<=f a):∀{l:List Tm} {n:Int},n<=dh f l n
 |[],n=>by simp[dh]
 |a::l,n=>by
  unfold dh;have:=hf a;split
  .omega
  .have:=aiy hf (l:=l) (n:=n+f a);omega
def xD:∀(L:Nat) (t:Tm),1<=bz L t
 |0,t=>by simp[bz]
 |L+1,t=>aiy (xD L)
def aiA {f:Tm->Int}{B:Int}(hf:∀a,f a<=B)(hB:0<=B):∀{l:List Tm} {n:Int},n<=60->dh f l n<=60+B
 |[],n,h=>by simp[dh];omega
 |a::l,n,h=>by
  unfold dh;have:=hf a;split
  .omega
  .exact aiA hf hB (by omega)
def aiC:∀(L:Nat) (t:Tm),bz L t<=61+60*L
 |0,t=>by simp[bz]
 |L+1,t=>by
  have:=aiA (f:=bz L) (λa=>aiC L a) (by omega) (l:=t.args) (n:=1) (by omega);show dh _ _ _<=_;omega
def aiB {f:Tm->Int}(hf:∀a,1<=f a):∀{l:List Tm} {n:Int},dh f l n<=60->(n:Int)+l.length<=60/\∀a,a∈l->f a<=60-n
 |[],n,h=>by simp[dh] at h ⊢;exact h
 |a::l,n,h=>by
  unfold dh at h;have:=hf a;split at h
  .omega
  .obtain⟨h1,h2⟩:=aiB hf h;refine⟨by simp;omega,λb hb=>?_⟩;rcases dG.1 hb with rfl|hb
   .omega
   .have:=h2 b hb;omega
def Hs {L:Nat}{t:Tm}(h:bz (L+1) t<=60):t.args.length<=59/\∀a,a∈t.args->bz L a<=60:=by
 obtain⟨h1,h2⟩:=aiB (xD L) h;exact⟨by omega,λa ha=>by have:=h2 a ha;omega⟩
def Z8:∀(L:Nat) (t:Tm) (lv:Int),t.OK->L<=8->lv=9-(L:Int)->ah T 224 [dx t,.int lv] (.int (bz L t))
 |0,t,lv,ht,hL,UW=>by
  refine .of_tree rfl aeO anR ?_;subst UW;simp[Ra,bz]
 |L+1,t,lv,ht,hL,UW=>by
  refine .of_tree rfl aeO anR ?_;have hl:=ht.len;have h8:¬(8<lv):=by omega
  have zX:i64.wrap (lv+1)=lv+1:=ax (by omega);simp[Ra,h8];refine .scan t.args.length (λk=>1+ej (bz L) (t.args.take (k+1))<=60) (λk=>[.int (1+ej (bz L) (t.args.take k)),.int k]) (λ_=>[]) ?_ (λk hk hj ho=>?_) (λk hk hj ho=>?_) (λhj=>?_)
  .simp[ej]
  all_goals try rw[On hk] at ho
  .have hw:i64.wrap ((k:Int)+1)=(k:Int)+1:=ax (by omega);have fK:=Z8 L t.args[k] (lv+1) (ht.arg (bR hk)) (by omega) (by omega);rw[On hk];have hs:0<=ej (bz L) (t.args.take k):=by
    unfold ej;have:∀(l:List Tm),0<=(l.map (bz L)).sum:=by
     intro l
     induction l with
     |nil=>simp
     |cons a l ih=>have:=xD L a;simp;omega
    exact this _
   have iQ:=xD L t.args[k];generalize ej (bz L) (t.args.take k)=m at*;generalize bz L t.args[k]=v at*;have uS:i64.wrap (1+m+v)=1+m+v:=ax (by omega);have gj:¬60<1+m+v:=by omega
   simp[ZJ,Jj,hk,zX];refine⟨_,fK,?_⟩;simp[uS,gj,hw];omega
  .have fK:=Z8 L t.args[k] (lv+1) (ht.arg (bR hk)) (by omega) (by omega);have hf:bz (L+1) t=1+ej (bz L) (t.args.take (k+1)):=aix hk hj (by rw[On hk];omega);rw[hf,On hk];have hs:0<=ej (bz L) (t.args.take k)/\1+ej (bz L) (t.args.take k)<=60:=by
    constructor
    .unfold ej;have:∀(l:List Tm),0<=(l.map (bz L)).sum:=by
       intro l
       induction l with
       |nil=>simp
       |cons a l ih=>have:=xD L a;simp;omega
     exact this _
    .cases k with
     |zero=>simp[ej]
     |succ k=>exact hj k (by omega)
   have iQ:=xD L t.args[k];have eI:=aiC L t.args[k];generalize ej (bz L) (t.args.take k)=m at*;generalize bz L t.args[k]=v at*;have uS:i64.wrap (1+m+v)=1+m+v:=ax (by omega);have gj:60<1+m+v:=by omega
   simp[ZJ,Jj,hk,zX];refine⟨_,fK,?_⟩;simp[uS,gj];omega
  .have hf:bz (L+1) t=1+ej (bz L) t.args:=aiz hj;rw[hf];simp[ZJ,Jj]
def oU (ws ts:List Int):Nat->Int
 |0=>-1
 |k+1=>if ws.getD k 0=-1/\oU ws ts k=-1 then ts.getD k 0 else oU ws ts k
def qd (ws ts:List Int)(k:Nat):Bool:=if ws.getD k 0=-1 then decide (oU ws ts k=-1)||decide (ts.getD k 0=oU ws ts k) else decide (ts.getD k 0=ws.getD k 0)
def sX (t:Tm)(ks:List Int):Int×Int:=
 if t.op<0\/13<t.op then(0,1) else if t.op=0\/t.op=1\/t.op=2 then sT t else
 if ks.length≠(dL t.op).1.length\/t.n≠0 then(0,2) else
 if fl (dL t.op).1.length (qd (dL t.op).1 ks)=false then(0,11) else if(dL t.op).2=-1 then(oU (dL t.op).1 ks (dL t.op).1.length,0) else((dL t.op).2,0)
def bE:Nat->Tm->Int×Int
 |0,_=>(0,0)
 |L+1,t=>if gd t.args.length (λk=>(bE L (t.args.getD k default)).2)≠0 then(0,gd t.args.length (λk=>(bE L (t.args.getD k default)).2)) else sX t (t.args.map λa=>(bE L a).1)
def FG (L:Nat)(t:Tm):bE (L+1) t=if gd t.args.length (λk=>(bE L (t.args.getD k default)).2)≠0 then(0,gd t.args.length (λk=>(bE L (t.args.getD k default)).2)) else sX t (t.args.map λa=>(bE L a).1):=rfl
def ZV {α:Type}(A:List α)(z:α){k n:Nat}(hA:A.length=n)(hk:k<n):(A.take k++List.replicate (n-k) z).set k A[k]=A.take (k+1)++List.replicate (n-(k+1)) z:=by
 have h1:(A.take k).length=k:=by rw[eQ];omega
 rw[List.set_append_right _ _ (by omega),h1,RG];have:n-k=(n-(k+1))+1:=by omega
 rw[this,List.replicate_succ,List.set_cons_zero,gA (by omega),qD];rfl
def aCD (op:Int):(dL op).1.length<=3:=by
 unfold dL;repeat' split
 all_goals simp
def Z7:∀(L:Nat) (t:Tm),t.OK->bz L t<=60->ah T 225 [dx t] (.tup [.int (bE L t).1,.int (bE L t).2])
 |0,t,ht,hm=>by simp[bz] at hm
 |L+1,t,ht,hm=>by
  refine zyt 42 aGJ ?_;obtain⟨hl,hp⟩:=Hs hm;simp[adj];refine⟨by omega,?_⟩;refine pB t.args.length (λk=>(bE L (t.args.getD k default)).2) (λk=>[.int 0,.int 0,.int k]) (λk=>[ints ((t.args.map λa=>(bE L a).1).take k++List.replicate (t.args.length-k) 0)]) ?_ (λk hk ho=>?_) (λk hk ho hb=>?_) (λhj=>?_)
  .simp[ints]
  .have hw:=be hk (by omega);have cY:=bR hk;have fK:=Z7 L t.args[k] (ht.arg cY) (hp _ cY);have hs:=ZV (t.args.map λa=>(bE L a).1) 0 (n:=t.args.length) (by simp) hk;rw[<-hs];have hlen:((t.args.map λa=>(bE L a).1).take k++List.replicate (t.args.length-k) (0:Int)).length=t.args.length:=by simp;omega
   have Gx:(t.args.map λa=>(bE L a).1)[k]'(by simpa using hk)=(bE L t.args[k]).1:=by simp
   rw[Gx];generalize (t.args.map λa=>(bE L a).1).take k++List.replicate (t.args.length-k) (0:Int)=A at*;simp[hk] at ho;rw[ho] at fK;generalize (bE L t.args[k]).1=kd at*;simp[ZH,Jh,hk];refine⟨_,fK,?_⟩;simp[hlen,hk,hw,ints]
  .have cY:=bR hk;have fK:=Z7 L t.args[k] (ht.arg cY) (hp _ cY);have hf:bE (L+1) t=(0,(bE L (t.args.getD k default)).2):=by
    rw[FG,hb,if_pos ho]
   rw[hf];simp[hk] at ho ⊢;simp[ZH,Jh,hk];refine⟨_,fK,?_⟩;simp[ho]
  .have hf:bE (L+1) t=sX t (t.args.map λa=>(bE L a).1):=by
    rw[FG,hj];simp
   rw[hf]
   have e0:(t.args.map λa=>(bE L a).1).take t.args.length++List.replicate (t.args.length-t.args.length) 0=t.args.map λa=>(bE L a).1:=by
    rw[RG,EK (by simp)];simp
   rw[e0];have hkl:(t.args.map λa=>(bE L a).1).length=t.args.length:=by simp
   generalize (t.args.map λa=>(bE L a).1)=ks at*;simp[ZH,Jh];unfold sX;by_cases h1:t.op<0
   .simp[h1]
   by_cases h2:13<t.op
   .simp[h1,h2]
   simp[h1,h2];by_cases h3:t.op=0\/t.op=1\/t.op=2
   .have fI:(t.op=0\/t.op=1)\/t.op=2:=by omega
    simp[h3,fI];refine⟨_,aDa t,?_⟩;simp
   have fI:¬((t.op=0\/t.op=1)\/t.op=2):=by omega
   simp[h3,fI];refine⟨_,aDc _,?_⟩;have NY:=aCD t.op;generalize dL t.op=sh at*;simp;by_cases h4:ks.length=sh.1.length
   case neg=>
    have kI:¬((ks.length:Int)=sh.1.length):=by omega
    have Nh:¬t.args.length=sh.1.length:=by omega
    simp[h4,kI,Nh]
   have kI:(ks.length:Int)=sh.1.length:=by omega
   have Nh:t.args.length=sh.1.length:=by omega
   by_cases h5:t.n=0
   case neg=>simp[h4,kI,Nh,h5]
   simp[h4,kI,Nh,h5];refine gM sh.1.length (qd sh.1 ks) (λk=>[.int 0,.int 0,.int (oU sh.1 ks k),.int k]) (λ_=>[]) ?_ (λk hk ho=>?_) (λk hk ho hb=>?_) (λhj=>?_)
   .simp[oU]
   .have hw:=be hk (by omega);have dq:k<ks.length:=by omega
    simp only[oU];unfold qd at ho;simp only[bn,cd hk,cd dq,lj] at ho ⊢;generalize oU sh.1 ks k=c at*;by_cases a1:sh.1[k]=-1
    .by_cases a2:c=-1
     .simp[Ec,ya,hk,dq,hw,ints,a1,a2]
     .simp[a1,a2] at ho;simp[Ec,ya,hk,dq,hw,ints,a1,a2,ho]
    .simp[a1] at ho;simp[Ec,ya,hk,dq,hw,ints,a1,ho]
   .rw[hb];have dq:k<ks.length:=by omega
    unfold qd at ho;simp only[bn,cd hk,cd dq,lj] at ho;generalize oU sh.1 ks k=c at*;by_cases a1:sh.1[k]=-1
    .by_cases a2:c=-1
     .simp[a1,a2] at ho
     .simp[a1,a2] at ho;simp[Ec,ya,hk,dq,ints,a1,a2,ho]
    .simp[a1] at ho;simp[Ec,ya,hk,dq,ints,a1,ho]
   .rw[hj];simp[Ec,ya];by_cases a1:sh.2=-1<;>simp[a1]
def kh (t:Tm):Int×Int:=if 60<bz 8 t then(0,6) else bE 8 t
def anI (t:Tm)(ht:t.OK):ah T 190 [dx t] (.tup [.int (kh t).1,.int (kh t).2]):=by
 refine zyt 40 aGF ?_;simp[adf,kh];refine⟨_,Z8 8 t 1 ht (by omega) (by omega),?_⟩;by_cases h:60<bz 8 t
 .simp[h]
 simp[h];refine⟨_,Z7 8 t ht (by omega),?_⟩;simp
abbrev u (n:Nat):D:=.v (.int .u64 n)
def Rg (n:Int):IntKind.u64.wrap n=n%18446744073709551616:=rfl
def j1 {n:Int}(h:0<=n/\n<18446744073709551616):IntKind.u64.wrap n=n:=by
 rw[Rg];omega
def fc {n:Nat}(h:n<18446744073709551616):IntKind.u64.wrap (n:Int)=n:=j1 (by omega)
def QD (a s:Nat)(h:s<=64):bO .shr .u64 a s=((a/2^s:Nat):Int):=by
 show Int.fdiv (a:Int) (2^(min (s:Int).toNat 64))=_;have:min (s:Int).toNat 64=s:=by simp;omega
 rw[this,ad4 _ (tS (Int.pow_pos (by decide)))];rw[Int.natCast_ediv,Rs];rfl
def ZY (a s:Nat)(h:s<=64):bO .shl .u64 a s=((a*2^s%18446744073709551616:Nat):Int):=by
 show IntKind.u64.wrap ((a:Int)*(2^(min (s:Int).toNat 64)))=_;have:min (s:Int).toNat 64=s:=by simp;omega
 rw[this,Rg,Int.natCast_emod,Int.natCast_mul,Rs];rfl
def E0 (a:Nat)(h:a<18446744073709551616):bO .and .u64 a 4294967295=((a%4294967296:Nat):Int):=by
 show IntKind.u64.wrap ((BitVec.ofInt 64 (a:Int)&&& BitVec.ofInt 64 4294967295).toNat:Nat)=_;have e:(BitVec.ofInt 64 (a:Int)&&& BitVec.ofInt 64 4294967295).toNat=a%4294967296:=by
  rw[BitVec.toNat_and];have e1:(BitVec.ofInt 64 (a:Int)).toNat=a:=by simp[BitVec.ofInt,BitVec.toNat_ofNat];omega
  have e2:(BitVec.ofInt 64 4294967295).toNat=2^32-1:=by decide
  rw[e1,e2,Nat.and_two_pow_sub_one_eq_mod]
 rw[e,fc (by omega)]
@[simp] def fb (a:Nat):bO .shr .u64 a 32=((a/4294967296:Nat):Int):=QD a 32 (by decide)
@[simp] def aOn (a:Nat):bO .shr .u64 a 16=((a/65536:Nat):Int):=QD a 16 (by decide)
@[simp] def aOo (a:Nat):bO .shr .u64 a 8=((a/256:Nat):Int):=QD a 8 (by decide)
set_option maxHeartbeats 2000000 in
def V5 (a b:Nat)(ha:a<18446744073709551616)(hb:b<18446744073709551616):ah T 134 [u a,u b] (.tup [u (a*b/18446744073709551616),u (a*b%18446744073709551616)]):=by
 refine zyt 54 aDK ?_;obtain⟨h1,h2,h3,h4⟩:=Go.Lib.mul64_hi a b ha hb;have elo:IntKind.u64.wrap ((a:Int)*(b:Int))=((a*b%18446744073709551616:Nat):Int):=by rw[Rg,Int.natCast_emod,Int.natCast_mul];rfl
 have TH:bO .shr .u64 (a:Int) 32=((a/4294967296:Nat):Int):=fb a;have ea0:bO .and .u64 (a:Int) 4294967295=((a%4294967296:Nat):Int):=E0 a ha;have TI:bO .shr .u64 (b:Int) 32=((b/4294967296:Nat):Int):=fb b;have eb0:bO .and .u64 (b:Int) 4294967295=((b%4294967296:Nat):Int):=E0 b hb;have aMP:=Go.Lib.half_mul_le (a:=a/4294967296) (b:=b/4294967296) (by omega) (by omega);have aMO:=Go.Lib.half_mul_le (a:=a/4294967296) (b:=b%4294967296) (by omega) (by omega);have aMN:=Go.Lib.half_mul_le (a:=a%4294967296) (b:=b/4294967296) (by omega) (by omega);have aMM:=Go.Lib.half_mul_le (a:=a%4294967296) (b:=b%4294967296) (by omega) (by omega);have zF:a*b/18446744073709551616<18446744073709551616:=by
  have:a*b<18446744073709551616*18446744073709551616:=Nat.mul_lt_mul'' ha hb;exact Nat.div_lt_of_lt_mul this
 simp only[aay];generalize a/4294967296=a1 at*;generalize a%4294967296=a0 at*;generalize b/4294967296=b1 at*;generalize b%4294967296=b0 at*;have p11:IntKind.u64.wrap ((a1:Int)*(b1:Int))=((a1*b1:Nat):Int):=by rw[<-Int.natCast_mul];exact fc (by omega)
 have p10:IntKind.u64.wrap ((a1:Int)*(b0:Int))=((a1*b0:Nat):Int):=by rw[<-Int.natCast_mul];exact fc (by omega)
 have p01:IntKind.u64.wrap ((a0:Int)*(b1:Int))=((a0*b1:Nat):Int):=by rw[<-Int.natCast_mul];exact fc (by omega)
 have p00:IntKind.u64.wrap ((a0:Int)*(b0:Int))=((a0*b0:Nat):Int):=by rw[<-Int.natCast_mul];exact fc (by omega)
 rw[<-h4] at zF ⊢;generalize a1*b1=P at*;generalize a1*b0=Q at*;generalize a0*b1=R at*;generalize a0*b0=S at*;have s1:bO .shr .u64 (S:Int) 32=((S/4294967296:Nat):Int):=fb S;have s2:IntKind.u64.wrap ((Q:Int)+((S/4294967296:Nat):Int))=((Q+S/4294967296:Nat):Int):=by rw[j1 (by omega)];omega
 generalize S/4294967296=S1 at*;generalize hT:Q+S1=TT at*;have s3:bO .shr .u64 (TT:Int) 32=((TT/4294967296:Nat):Int):=fb TT;have s4:bO .and .u64 (TT:Int) 4294967295=((TT%4294967296:Nat):Int):=E0 TT (by omega);have s5:IntKind.u64.wrap (((TT%4294967296:Nat):Int)+(R:Int))=((TT%4294967296+R:Nat):Int):=by rw[j1 (by omega)];omega
 generalize hU:TT%4294967296+R=U at*;have s6:bO .shr .u64 (U:Int) 32=((U/4294967296:Nat):Int):=fb U;have s7:IntKind.u64.wrap ((P:Int)+((TT/4294967296:Nat):Int))=((P+TT/4294967296:Nat):Int):=by rw[j1 (by omega)];omega
 have s8:IntKind.u64.wrap (((P+TT/4294967296:Nat):Int)+((U/4294967296:Nat):Int))=((P+TT/4294967296+U/4294967296:Nat):Int):=by rw[j1 (by omega)];omega
 simp[-fb,-Int.natCast_add,-Int.natCast_mul,-Int.natCast_ediv,-Int.natCast_emod,elo,TH,ea0,TI,eb0,p11,p10,p01,p00,s1,s2,s3,s4,s5,s6,s7,s8]
def nr (m:Nat):Int:=if m<1099511627776 then m else 1099511627776
def ru (a b:Int):Int:=if(decide (a<0)!=decide (b<0))=true then-nr (a.natAbs*b.natAbs) else nr (a.natAbs*b.natAbs)
def alD (m:Nat):0<=nr m/\nr m<=1099511627776:=by unfold nr;split<;>omega
set_option maxHeartbeats 1000000 in
def aDb (a b:Int)(ha:-1099511627776<=a/\a<=1099511627776)(hb:-1099511627776<=b/\b<=1099511627776):ah T 269 [.int a,.int b] (.int (ru a b)):=by
 refine zyt 53 aGP ?_;have wa:IntKind.u64.wrap (a.natAbs:Int)=a.natAbs:=fc (by omega);have wb:IntKind.u64.wrap (b.natAbs:Int)=b.natAbs:=fc (by omega);have w0a:i64.wrap (0-a)=-a:=by rw[ax (by omega)];omega
 have w0b:i64.wrap (0-b)=-b:=by rw[ax (by omega)];omega
 have aHe:i64.wrap (-a)=-a:=ax (by omega);have aHf:i64.wrap (-b)=-b:=ax (by omega);have ea:(if a< -a then D.int (-a) else D.int a)=D.int a.natAbs:=by split<;>congr 1<;>omega
 have eb:(if b< -b then D.int (-b) else D.int b)=D.int b.natAbs:=by split<;>congr 1<;>omega
 have ea':(if a< -a then-a else a)=(a.natAbs:Int):=by split<;>omega
 have eb':(if b< -b then-b else b)=(b.natAbs:Int):=by split<;>omega
 simp[ado,aHe,aHf,ea,eb,ea',eb'];rw[wa,wb];refine⟨_,V5 a.natAbs b.natAbs (by omega) (by omega),?_⟩;unfold ru;generalize a.natAbs*b.natAbs=m;have hs:(decide (a<0)!=decide (b<0))=false↔(a<0↔b<0):=by
  by_cases h1:a<0<;>by_cases h2:b<0<;>simp[h1,h2]
 have key:((if((m/18446744073709551616:Nat):Int)=0/\((m%18446744073709551616:Nat):Int)<1099511627776 then i64.wrap ((m%18446744073709551616:Nat):Int) else 1099511627776):Int)=nr m:=by
  unfold nr;by_cases hm:m<1099511627776
  .have h1:m/18446744073709551616=0:=by omega
   have h2:m%18446744073709551616=m:=by omega
   rw[h1,h2,if_pos ⟨rfl,by omega⟩,if_pos hm,ax (by omega)]
  .rw[if_neg hm,if_neg];rintro⟨h1,h2⟩;omega
 have eh:=alD m;have aw7:(if((m/18446744073709551616:Nat):Int)=0/\((m%18446744073709551616:Nat):Int)<1099511627776 then D.int (i64.wrap ((m%18446744073709551616:Nat):Int)) else D.int 1099511627776)=D.int (nr m):=by
  rw[<-key];split<;>rfl
 show(if a<0↔b<0 then(if((m/18446744073709551616:Nat):Int)=0/\((m%18446744073709551616:Nat):Int)<1099511627776 then D.int (i64.wrap ((m%18446744073709551616:Nat):Int)) else D.int 1099511627776)=_ else
  i64.wrap (-(if((m/18446744073709551616:Nat):Int)=0/\((m%18446744073709551616:Nat):Int)<1099511627776 then i64.wrap ((m%18446744073709551616:Nat):Int) else 1099511627776))=_)
 rw[aw7,key];generalize nr m=n at*;split
 .rename_i h;rw[hs.2 h];simp
 .rename_i h;have:(decide (a<0)!=decide (b<0))=true:=by
   cases e:(decide (a<0)!=decide (b<0)) with
   |true=>rfl
   |false=>exact absurd (hs.1 e) h
  rw[this,ax (by omega)];simp
def uh (op a b:Int):Int:=if op=9 then mc (a+b) else if op=10 then mc (a-b) else if op=11 then ru a b else if op=12 then min a b else max a b
def aC8 (op a b:Int)(ha:-1099511627776<=a/\a<=1099511627776)(hb:-1099511627776<=b/\b<=1099511627776):ah T 253 [.int op,.int a,.int b] (.int (uh op a b)):=by
 refine zyt 52 aGI ?_;have w1:i64.wrap (a+b)=a+b:=ax (by omega);have w2:i64.wrap (a-b)=a-b:=ax (by omega);simp[adi,uh,w1,w2];by_cases h1:op=9
 .simp[h1];exact QO _
 by_cases h2:op=10
 .simp[h1,h2];exact QO _
 by_cases h3:op=11
 .simp[h1,h2,h3];exact aDb a b ha hb
 by_cases h4:op=12
 .simp[h1,h2,h3,h4];by_cases h5:b<a<;>simp[h5]<;>omega
 simp[h1,h2,h3,h4];by_cases h5:b>a<;>simp[h5]<;>omega
def fj (b:Bool):Cell:=if b then⟨true,1⟩ else⟨true,0⟩
def yk (b:Bool):ah T 251 [.bool b] (ct (fj b)):=by
 refine zyt 50 aGR ?_;cases b<;>simp[adq,fj]<;>rfl
def dj:Cell:=⟨false,0⟩
@[simp] def aNM:D.agg [.bool false,.int 0]=ct dj:=zyw
@[simp] def aNN:dj.known=false:=rfl
@[simp] def aNO:dj.n=0:=rfl
def cellAt (cs:List Cell)(v:Int):Cell:=cs.getD v.toNat default
def kz (cs:List Cell)(v:Int):Cell:=if cs.length<=v.toNat\/(cellAt cs v).known=false then dj else if(kA v).1=1 then fj (decide ((cellAt cs v).n≠0)) else⟨true,mc (cellAt cs v).n⟩
abbrev TK (cs:List Cell):D:=.agg [cells cs]
def aDd (cs:List Cell)(v:Int)(hv:0<=v):ah T 226 [TK cs,.int v] (ct (kz cs v)):=by
 refine zyt 49 aGO ?_;obtain⟨k,rfl⟩:=eC hv;simp[adn,kz,cellAt];by_cases h1:cs.length<=k
 .simp[h1]
 have cu:k<cs.length:=by omega
 simp[h1,cu];cases h2:cs[k].known
 .simp[h2]
 simp[h2];refine⟨_,anJ _,?_⟩;by_cases h3:(kA k).1=1
 .simp[h3,cu];refine⟨_,yk _,?_⟩;simp;rfl
 .simp[h3,cu];refine⟨_,QO _,?_⟩;simp;rfl
@[simp] def aM8 (a b:Int):(a==b)=decide (a=b):=zyw
@[simp] def aM9 (a b:Int):(a !=b)= !decide (a=b):=zyw
def bq (l:List Cell)(k:Nat):Cell:=l.getD k default
def eR (op:Int)(l:List Cell):Cell:=
 if op=3 then(if(bq l 0).known=true then fj (decide ((bq l 0).n=0)) else dj)
 else if(op=4\/op=5)/\(bq l 0=fj (decide (op=5))\/bq l 1=fj (decide (op=5))) then fj (decide (op=5))
 else if op=6 then(if(bq l 1).known=true/\bq l 1=bq l 2 then bq l 1 else dj)
 else if(bq l 0).known=false\/(bq l 1).known=false then dj
 else if op=4\/op=5 then fj (decide (op=4))
 else if op=7 then fj (decide ((bq l 0).n<(bq l 1).n)) else if op=8 then fj (decide ((bq l 0).n=(bq l 1).n)) else⟨true,uh op (bq l 0).n (bq l 1).n⟩
def Ku (a b:Cell):a=b↔a.known=b.known/\a.n=b.n:=by cases a;cases b;simp
def aC9 (op:Int)(l:List Cell)(h1:1<=l.length)(h2:op≠3->2<=l.length)(h3:op=6->3<=l.length)
 (hb:9<=op->(-1099511627776<=(bq l 0).n/\(bq l 0).n<=1099511627776)/\(-1099511627776<=(bq l 1).n/\(bq l 1).n<=1099511627776)) (h9:op<3\/8<op->9<=op):
 ah T 227 [.int op,cells l] (ct (eR op l)):=by
 refine zyt 51 aGK ?_;have g0:0<l.length:=by omega
 have zn:l[0]=bq l 0:=by simp[bq,g0]
 simp[adk];unfold eR;by_cases o3:op=3
 .simp[o3,g0,zn];cases e:(bq l 0).known
  .simp
  .simp[g0];refine⟨_,yk _,?_⟩;simp
 have g1:1<l.length:=by have:=h2 o3;omega
 have Gb:l[1]=bq l 1:=by simp[bq,g1]
 have dW:(1:Int)<l.length:=by omega
 simp[o3];have fin:∀a b:Cell,(a=b)=(a.known=b.known/\a.n=b.n):=λa b=>propext (Ku a b);rcases JM (op=4) with o4|o4
 .subst o4;simp;refine⟨_,yk _,?_⟩;simp[g0,g1,dW,zn,Gb,fin];split
  .rfl
  .split
   .rfl
   .refine⟨_,yk _,?_⟩;simp
 rcases JM (op=5) with o5|o5
 .subst o5;simp;refine⟨_,yk _,?_⟩;simp[g0,g1,dW,zn,Gb,fin];split
  .rfl
  .split
   .rfl
   .refine⟨_,yk _,?_⟩;simp
 rcases JM (op=6) with o6|o6
 .subst o6;have g2:2<l.length:=by have:=h3 rfl;omega
  have gg2:l[2]=bq l 2:=by simp[bq,g2]
  have ly:(2:Int)<l.length:=by omega
  simp[g1,g2,dW,ly,Gb,gg2,fin];cases e1:(bq l 1).known
  .simp
  by_cases e2:(bq l 1).known=(bq l 2).known/\(bq l 1).n=(bq l 2).n
  .rw[e1] at e2;simp[e1,e2]
  .rw[e1] at e2;have wu:¬((bq l 2).known=true/\(bq l 1).n=(bq l 2).n):=λh=>e2 ⟨h.1.symm,h.2⟩;simp only[e1,true_and,if_true]
   first|(rw[if_neg wu,if_neg wu])|(simp[wu])
 simp[o4,o5,o6,g0,g1,dW,zn,Gb];cases e1:(bq l 0).known
 .simp
 cases e2:(bq l 1).known
 .simp
 simp[g1,dW,Gb];rcases JM (op=7) with o7|o7
 .subst o7;simp;refine⟨_,yk _,?_⟩;simp
 rcases JM (op=8) with o8|o8
 .subst o8;simp;refine⟨_,yk _,?_⟩;simp
 simp[o7,o8];obtain⟨b1,b2⟩:=hb (h9 (by omega));refine⟨_,aC8 op _ _ b1 b2,?_⟩;simp;rfl
def aAe (a b s:Nat)(h:a<18446744073709551616)(hb:b<2^s)(ha:a%2^s=0)(hs:s<=64):bO .or .u64 a b=((a+b:Nat):Int):=by
 show IntKind.u64.wrap ((BitVec.ofInt 64 (a:Int)|||BitVec.ofInt 64 (b:Int)).toNat:Nat)=_;have eh:b<18446744073709551616:=EM hb (by have:=Nat.pow_le_pow_right (n:=2) (by decide) hs;simpa using this);have e1:∀n:Nat,n<18446744073709551616->(BitVec.ofInt 64 (n:Int)).toNat=n:=λn hn=>by simp[BitVec.ofInt,BitVec.toNat_ofNat];omega
 have e:(BitVec.ofInt 64 (a:Int)|||BitVec.ofInt 64 (b:Int)).toNat=a+b:=by
  rw[BitVec.toNat_or,e1 a h,e1 b eh];have e3:a=2^s*(a/2^s):=by have:=sd a (2^s);omega
  rw[e3];exact(Nat.two_pow_add_eq_or_of_lt hb (a/2^s)).symm
 have aq:a+b<18446744073709551616:=by rw[<-e];exact BitVec.isLt _
 rw[e,fc aq]
def bl (x L:Nat):Prop:=(L=0->x=0)/\(0<L->2^(L-1)<=x)/\x<2^L/\L<=64
def Od:ByteArray:=⟨#[0,1,2,2,3,3,3,3,4,4,4,4,4,4,4,4,5,5,5,5,5,5,5,5,5,5,5,5,5,5,5,5,6,6,6,6,6,6,6,6,6,6,6,6,6,6,6,6,6,6,6,6,6,6,6,6,6,6,6,6,6,6,6,6,7,7,7,7,7,7,7,7,7,7,7,7,7,7,7,7,7,7,7,7,7,7,7,7,7,7,7,7,7,7,7,7,7,7,7,7,7,7,7,7,7,7,7,7,7,7,7,7,7,7,7,7,7,7,7,7,7,7,7,7,7,7,7,7,8,8,8,8,8,8,8,8,8,8,8,8,8,8,8,8,8,8,8,8,8,8,8,8,8,8,8,8,8,8,8,8,8,8,8,8,8,8,8,8,8,8,8,8,8,8,8,8,8,8,8,8,8,8,8,8,8,8,8,8,8,8,8,8,8,8,8,8,8,8,8,8,8,8,8,8,8,8,8,8,8,8,8,8,8,8,8,8,8,8,8,8,8,8,8,8,8,8,8,8,8,8,8,8,8,8,8,8,8,8,8,8,8,8,8,8,8,8,8,8,8,8,8,8,8,8,8,8]⟩
def cH (y:Nat):Nat:=(Od.data.getD y 0).toNat
def axh:(List.range 256).all (λy=>(cH y==0&&y==0||Nat.ble (2^(cH y-1)) y&&Nat.blt 0 (cH y))&&Nat.blt y (2^cH y)&&Nat.ble (cH y) 8)=true:=by kernel_rfl
def qe {y:Nat}(h:y<256):((cH y=0/\y=0)\/(2^(cH y-1)<=y/\0<cH y))/\y<2^cH y/\cH y<=8:=by
 have:=fe.1 axh y (gR.2 h);simp only[aA,lZ,beq_iff_eq,Nat.ble_eq,qF] at this;exact⟨this.1.1,this.1.2,this.2⟩
def aeS {y:Nat}(h:y<256):bl y (cH y):=by
 obtain⟨h1,h2,h3⟩:=qe h;refine⟨λh0=>?_,λh0=>?_,h2,by omega⟩
 .rcases h1 with h1|h1
  .exact h1.2
  .omega
 .rcases h1 with h1|h1
  .omega
  .exact h1.1
def Tg {x s L:Nat}(hx:2^s<=x)(h:bl (x/2^s) L)(hs:L+s<=64):bl x (L+s):=by
 have hp:0<2^s:=vT s;have hL:0<L:=by
  rcases JY L with h0|h0
  .have:=h.1 h0;have:=Nat.div_pos hx hp;omega
  .exact h0
 refine⟨λh0=>by omega,λ_=>?_,?_,hs⟩
 .have h1:=h.2.1 hL;have e:L+s-1=(L-1)+s:=by omega
  rw[e,vS];exact(RE hp).1 h1
 .rw[vS];exact(Be hp).1 h.2.2.1
@[simp] def yG {n:Nat}(h:n<256):IntKind.u8.wrap (n:Int)=n:=by
  show(n:Int)%256=n;omega
def axg:(⟨#[0,1,2,2,3,3,3,3,4,4,4,4,4,4,4,4,5,5,5,5,5,5,5,5,5,5,5,5,5,5,5,5,6,6,6,6,6,6,6,6,6,6,6,6,6,6,6,6,6,6,6,6,6,6,6,6,6,6,6,6,6,6,6,6,7,7,7,7,7,7,7,7,7,7,7,7,7,7,7,7,7,7,7,7,7,7,7,7,7,7,7,7,7,7,7,7,7,7,7,7,7,7,7,7,7,7,7,7,7,7,7,7,7,7,7,7,7,7,7,7,7,7,7,7,7,7,7,7,8,8,8,8,8,8,8,8,8,8,8,8,8,8,8,8,8,8,8,8,8,8,8,8,8,8,8,8,8,8,8,8,8,8,8,8,8,8,8,8,8,8,8,8,8,8,8,8,8,8,8,8,8,8,8,8,8,8,8,8,8,8,8,8,8,8,8,8,8,8,8,8,8,8,8,8,8,8,8,8,8,8,8,8,8,8,8,8,8,8,8,8,8,8,8,8,8,8,8,8,8,8,8,8,8,8,8,8,8,8,8,8,8,8,8,8,8,8,8,8,8,8,8,8,8,8,8,8]⟩:ByteArray)=Od:=rfl
def xy:Od.size=256:=by kernel_rfl
def xz (y:Nat):(Od.data[y]?.getD 0).toNat=cH y:=by simp[cH]
def l8 (x:Nat):Nat:=if 256<=x then cH (x/256)+8 else cH x
def Dx (x:Nat):Nat:=if 65536<=x then l8 (x/65536)+16 else l8 x
def xu (x:Nat):Nat:=if 4294967296<=x then Dx (x/4294967296)+32 else Dx x
def ahZ {x:Nat}(h:x<65536):bl x (l8 x):=by
 unfold l8;split
 .rename_i h1;exact Tg (s:=8) h1 (aeS (by omega)) (by have:=(qe (y:=x/256) (by omega)).2.2;omega)
 .exact aeS (by omega)
def ah0 {x:Nat}(h:x<65536):l8 x<=16:=by
 unfold l8;split
 .have:=(qe (y:=x/256) (by omega)).2.2;omega
 .have:=(qe (y:=x) (by omega)).2.2;omega
def ahX {x:Nat}(h:x<4294967296):bl x (Dx x)/\Dx x<=32:=by
 unfold Dx;split
 .rename_i h1;have:=ah0 (x:=x/65536) (by omega);exact⟨Tg (s:=16) h1 (ahZ (by omega)) (by omega),by omega⟩
 .have:=ah0 (x:=x) (by omega);exact⟨ahZ (by omega),by omega⟩
def ahY {x:Nat}(h:x<18446744073709551616):bl x (xu x):=by
 unfold xu;split
 .rename_i h1;have:=ahX (x:=x/4294967296) (by omega);exact Tg (s:=32) h1 this.1 (by omega)
 .exact(ahX (by omega)).1
set_option maxRecDepth 10000 in
set_option maxHeartbeats 1000000 in
def axf (x:Nat)(h:x<18446744073709551616):ah T 175 [u x] (.int (xu x:Nat)):=by
 refine zyt 108 aDJ ?_;unfold xu Dx l8;simp only[aax, kU, axg];have w8:i64.wrap 8=8:=ax (by omega);have yy:i64.wrap 16=16:=ax (by omega);have yz:i64.wrap 24=24:=ax (by omega);have yA:i64.wrap 32=32:=ax (by omega);have yB:i64.wrap 40=40:=ax (by omega);have yC:i64.wrap 48=48:=ax (by omega);have yD:i64.wrap 56=56:=ax (by omega);by_cases h1:4294967296<=x
 .have g1:(4294967296:Int)<=x:=by omega
  generalize jQ:x/4294967296=x1 at*;by_cases h2:65536<=x1
  .have g2:(65536:Int)<=(x1:Nat):=by omega
   generalize uT:x1/65536=x2 at*;by_cases h3:256<=x2
   .have g3:(256:Int)<=(x2:Nat):=by omega
    have hY:x2/256<256:=by omega
    have hl:=(qe hY).2.2;have k1:IntKind.u8.wrap ((x2/256:Nat):Int)=((x2/256:Nat):Int):=yG hY;have k2:i64.wrap ((cH (x2/256):Nat):Int)=cH (x2/256):=ax (by omega);have k3:i64.wrap (56+(cH (x2/256):Int))=56+(cH (x2/256):Int):=ax (by omega);simp[h1,h2,h3,g1,g2,g3,k1,xy,xz,k2,k3,w8,yy,yz,yA,yB,yC,yD,jQ,uT,-Int.natCast_ediv];omega
   .have g3:¬(256:Int)<=(x2:Nat):=by omega
    have hY:x2<256:=by omega
    have hl:=(qe hY).2.2;have k1:IntKind.u8.wrap ((x2:Nat):Int)=((x2:Nat):Int):=yG hY;have k2:i64.wrap ((cH (x2):Nat):Int)=cH (x2):=ax (by omega);have k3:i64.wrap (48+(cH (x2):Int))=48+(cH (x2):Int):=ax (by omega);simp[h1,h2,h3,g1,g2,g3,k1,xy,xz,k2,k3,w8,yy,yz,yA,yB,yC,yD,jQ,uT,-Int.natCast_ediv];omega
  .have g2:¬(65536:Int)<=(x1:Nat):=by omega
   by_cases h3:256<=x1
   .have g3:(256:Int)<=(x1:Nat):=by omega
    have hY:x1/256<256:=by omega
    have hl:=(qe hY).2.2;have k1:IntKind.u8.wrap ((x1/256:Nat):Int)=((x1/256:Nat):Int):=yG hY;have k2:i64.wrap ((cH (x1/256):Nat):Int)=cH (x1/256):=ax (by omega);have k3:i64.wrap (40+(cH (x1/256):Int))=40+(cH (x1/256):Int):=ax (by omega);simp[h1,h2,h3,g1,g2,g3,k1,xy,xz,k2,k3,w8,yy,yz,yA,yB,yC,yD,jQ,-Int.natCast_ediv];omega
   .have g3:¬(256:Int)<=(x1:Nat):=by omega
    have hY:x1<256:=by omega
    have hl:=(qe hY).2.2;have k1:IntKind.u8.wrap ((x1:Nat):Int)=((x1:Nat):Int):=yG hY;have k2:i64.wrap ((cH (x1):Nat):Int)=cH (x1):=ax (by omega);have k3:i64.wrap (32+(cH (x1):Int))=32+(cH (x1):Int):=ax (by omega);simp[h1,h2,h3,g1,g2,g3,k1,xy,xz,k2,k3,w8,yy,yz,yA,yB,yC,yD,jQ,-Int.natCast_ediv];omega
 .have g1:¬(4294967296:Int)<=x:=by omega
  by_cases h2:65536<=x
  .have g2:(65536:Int)<=(x:Nat):=by omega
   generalize uT:x/65536=x2 at*;by_cases h3:256<=x2
   .have g3:(256:Int)<=(x2:Nat):=by omega
    have hY:x2/256<256:=by omega
    have hl:=(qe hY).2.2;have k1:IntKind.u8.wrap ((x2/256:Nat):Int)=((x2/256:Nat):Int):=yG hY;have k2:i64.wrap ((cH (x2/256):Nat):Int)=cH (x2/256):=ax (by omega);have k3:i64.wrap (24+(cH (x2/256):Int))=24+(cH (x2/256):Int):=ax (by omega);simp[h1,h2,h3,g1,g2,g3,k1,xy,xz,k2,k3,w8,yy,yz,yA,yB,yC,yD,uT,-Int.natCast_ediv];omega
   .have g3:¬(256:Int)<=(x2:Nat):=by omega
    have hY:x2<256:=by omega
    have hl:=(qe hY).2.2;have k1:IntKind.u8.wrap ((x2:Nat):Int)=((x2:Nat):Int):=yG hY;have k2:i64.wrap ((cH (x2):Nat):Int)=cH (x2):=ax (by omega);have k3:i64.wrap (16+(cH (x2):Int))=16+(cH (x2):Int):=ax (by omega);simp[h1,h2,h3,g1,g2,g3,k1,xy,xz,k2,k3,w8,yy,yz,yA,yB,yC,yD,uT,-Int.natCast_ediv];omega
  .have g2:¬(65536:Int)<=(x:Nat):=by omega
   by_cases h3:256<=x
   .have g3:(256:Int)<=(x:Nat):=by omega
    have hY:x/256<256:=by omega
    have hl:=(qe hY).2.2;have k1:IntKind.u8.wrap ((x/256:Nat):Int)=((x/256:Nat):Int):=yG hY;have k2:i64.wrap ((cH (x/256):Nat):Int)=cH (x/256):=ax (by omega);have k3:i64.wrap (8+(cH (x/256):Int))=8+(cH (x/256):Int):=ax (by omega);simp[h1,h2,h3,g1,g2,g3,k1,xy,xz,k2,k3,w8,yy,yz,yA,yB,yC,yD,-Int.natCast_ediv];omega
   .have g3:¬(256:Int)<=(x:Nat):=by omega
    have hY:x<256:=by omega
    have hl:=(qe hY).2.2;have k1:IntKind.u8.wrap ((x:Nat):Int)=((x:Nat):Int):=yG hY;have k2:i64.wrap ((cH (x):Nat):Int)=cH (x):=ax (by omega);have k3:i64.wrap (0+(cH (x):Int))=0+(cH (x):Int):=ax (by omega);simp[h1,h2,h3,g1,g2,g3,k1,xy,xz,k2,k3,w8,yy,yz,yA,yB,yC,yD,-Int.natCast_ediv];omega
def afn {v1 v0 u32 d:Nat}(hv:0<v1)(hd:d<4294967296)(hu:u32<v1*4294967296+v0):(u32*4294967296+d)/(v1*4294967296+v0)<=u32/v1:=by
 have h1:(u32*4294967296+d)/(v1*4294967296+v0)<=(u32*4294967296+d)/(v1*4294967296):=Nat.div_le_div_left (by omega) (by omega);have h2:(u32*4294967296+d)/(v1*4294967296)=u32/v1:=by
  rw[nP v1,<-aeo]
  congr 1;omega
 omega
def afq {v1 v0 u32:Nat}(jx:v0<4294967296)(bD:2147483648<=v1)(hu:u32<v1*4294967296+v0):u32/v1<=4294967297:=by
 have h1:u32/v1*v1<=u32:=Nat.div_mul_le_self u32 v1;have h2:u32/v1*v1<4294967298*v1:=by omega
 have:=Nat.lt_of_mul_lt_mul_right h2;omega
def TD (q v1 v0:Nat):q*(v1*4294967296+v0)=q*v1*4294967296+q*v0:=by rw[RF,Bf]
def afp {v1 v0 u32 d q r:Nat}(hu:u32<v1*4294967296+v0)(hd:d<4294967296)(h1:q*v1+r=u32)(c:4294967296<=q\/4294967296*r+d<q*v0):(u32*4294967296+d)/(v1*4294967296+v0)<q:=by
 rw[Be (by omega)];rcases c with c|c
 .have h2:4294967296*(v1*4294967296+v0)<=q*(v1*4294967296+v0):=j9 _ c;omega
 .rw[TD];omega
def afo {v1 v0 u32 d q r:Nat}(hv:0<v1)(h1:q*v1+r=u32)(c:q*v0<=4294967296*r+d):q<=(u32*4294967296+d)/(v1*4294967296+v0):=by
 rw[RE (by omega),TD];omega
def afm {v1 v0 u32 d q r:Nat}(jx:v0<4294967296)(h1:q*v1+r=u32)(hu:u32<v1*4294967296+v0)(c:4294967296<=r):q<=(u32*4294967296+d)/(v1*4294967296+v0):=by
 have hv:0<v1*4294967296+v0:=by omega
 have hq:q<4294967296:=by
  rcases JZ q 4294967296 with h|h
  .exact h
  .have:4294967296*v1<=q*v1:=j9 _ h;omega
 have h2:q*v0<=4294967295*4294967295:=l7 (by omega) (by omega);rw[RE hv,TD];omega
def axl (Z:Env)(q0 r0 v1 v0 u32 d:Nat)(jx:v0<4294967296)(bD:2147483648<=v1)(awA:v1<4294967296)(hd:d<4294967296)(hu:u32<v1*4294967296+v0)
 (hq:q0=u32/v1) (hr:r0=u32%v1) (h9:Z.r 9=u v1) (gX:Z.r 10=u v0) (zC:Z.r 13=u d) (zP:Z.r 15=u q0) (Vj:Z.r 16=u r0) (K:Env->Prop) (Q:Out->Prop)
 (hK:∀Z':Env,Z'.r 15=u ((u32*4294967296+d)/(v1*4294967296+v0))->(∀t,t∉[15,16,67,68,69,78]->Z'.r t=Z.r t)->K Z'):aG T (Hp yW) Z (fV K Q):=by
 have dm:=λq r=>afp (v1:=v1) (v0:=v0) (u32:=u32) (d:=d) (q:=q) (r:=r) hu hd;have dl:=λq r=>afo (v1:=v1) (v0:=v0) (u32:=u32) (d:=d) (q:=q) (r:=r) (by omega);have dd:=λq r=>afm (v1:=v1) (v0:=v0) (u32:=u32) (d:=d) (q:=q) (r:=r) jx;have di:=afn (v1:=v1) (v0:=v0) (u32:=u32) (d:=d) (by omega) hd hu;have hQ0:0<=(u32*4294967296+d)/(v1*4294967296+v0):=vU _;generalize (u32*4294967296+d)/(v1*4294967296+v0)=QQ at*;refine aG.forLoop (α:=Nat×Nat) (λs vr vo=>s.1*v1+s.2=u32/\QQ<=s.1/\s.2<4294967296/\s.1<=4294967297/\vr=[u s.1,u s.2]/\vo=[]) (λs=>s.1) (q0,r0) ⟨?_,?_,?_,?_,?_,rfl⟩ ?_
 .subst hq hr;exact JX u32 v1
 .subst hq;exact di
 .subst hr;have:=j7 u32 (show v1>0 by omega);omega
 .subst hq;exact afq jx bD hu
 .simp[zP,Vj]
 .rintro⟨q,r⟩ vr vo ⟨h1,h2,h3,h4,rfl,rfl⟩;dsimp only at h1 h2 h3 h4;have hm:q*v0<=4294967297*4294967295:=l7 h4 (by omega);have w1:IntKind.u64.wrap ((q:Int)*(v0:Int))=(q*v0:Nat):=by rw[<-Int.natCast_mul];exact fc (by omega)
  have w2:IntKind.u64.wrap (4294967296*(r:Int))=(4294967296*r:Nat):=by rw[j1 (by omega)];omega
  have w3:IntKind.u64.wrap (((4294967296*r:Nat):Int)+(d:Int))=(4294967296*r+d:Nat):=by rw[j1 (by omega)];omega
  have dm:=dm q r h1;have dl:=dl q r h1;generalize q*v0=M at*;by_cases c:4294967296<=q\/4294967296*r+d<M
  .have aq:=dm c;have w4:IntKind.u64.wrap ((q:Int)-1)=(q-1:Nat):=by rw[j1 (by omega)];omega
   have w5:IntKind.u64.wrap ((r:Int)+(v1:Int))=(r+v1:Nat):=by rw[j1 (by omega)];omega
   have e1:(q-1)*v1+(r+v1)=u32:=by rw[Nat.sub_mul,J0];have:v1<=q*v1:=Nat.le_mul_of_pos_left v1 (by omega);omega
   have um:(4294967296:Int)<=(q:Int)\/4294967296*r+d<M:=by omega
   by_cases c2:4294967296<=r+v1
   .have y3:(4294967296:Int)<=((r+v1:Nat):Int):=by omega
    have:=dd _ _ e1 hu c2;have e2:q-1=QQ:=by omega
    simp[Yu,Ic,h9,gX,zC,w1,w2,w3,w4,w5,um,y3,-Int.natCast_add,-Int.natCast_mul];refine hK _ ?_ ?_
    .simp[w4,e2]
    .intro t ht;simp at ht;simp[ht]
   .have y3:¬(4294967296:Int)<=((r+v1:Nat):Int):=by omega
    simp[Yu,Ic,h9,gX,zC,w1,w2,w3,w4,w5,um,y3,-Int.natCast_add,-Int.natCast_mul];exact⟨q-1,by omega,r+v1,e1,by omega,by omega,by omega,rfl,rfl⟩
  .have:=dl (by omega);have e2:q=QQ:=by omega
   have um:¬((4294967296:Int)<=(q:Int)):=by omega
   have Tj:¬(4294967296*r+d<M):=by omega
   simp[Yu,Ic,h9,gX,zC,w1,w2,w3,um,Tj,-Int.natCast_add,-Int.natCast_mul];refine hK _ ?_ ?_
   .simp[e2]
   .intro t ht;simp at ht;simp[ht]
def axm (Z:Env)(q0 r0 v1 v0 u32 d:Nat)(jx:v0<4294967296)(bD:2147483648<=v1)(awA:v1<4294967296)(hd:d<4294967296)(hu:u32<v1*4294967296+v0)
 (hq:q0=u32/v1) (hr:r0=u32%v1) (h9:Z.r 9=u v1) (gX:Z.r 10=u v0) (zC:Z.r 14=u d) (zP:Z.r 18=u q0) (Vj:Z.r 16=u r0) (K:Env->Prop) (Q:Out->Prop)
 (hK:∀Z':Env,Z'.r 18=u ((u32*4294967296+d)/(v1*4294967296+v0))->(∀t,t∉[16,18,102,103,104,113]->Z'.r t=Z.r t)->K Z'):aG T (Hq yW) Z (fV K Q):=by
 have dm:=λq r=>afp (v1:=v1) (v0:=v0) (u32:=u32) (d:=d) (q:=q) (r:=r) hu hd;have dl:=λq r=>afo (v1:=v1) (v0:=v0) (u32:=u32) (d:=d) (q:=q) (r:=r) (by omega);have dd:=λq r=>afm (v1:=v1) (v0:=v0) (u32:=u32) (d:=d) (q:=q) (r:=r) jx;have di:=afn (v1:=v1) (v0:=v0) (u32:=u32) (d:=d) (by omega) hd hu;have hQ0:0<=(u32*4294967296+d)/(v1*4294967296+v0):=vU _;generalize (u32*4294967296+d)/(v1*4294967296+v0)=QQ at*;refine aG.forLoop (α:=Nat×Nat) (λs vr vo=>s.1*v1+s.2=u32/\QQ<=s.1/\s.2<4294967296/\s.1<=4294967297/\vr=[u s.2,u s.1]/\vo=[]) (λs=>s.1) (q0,r0) ⟨?_,?_,?_,?_,?_,rfl⟩ ?_
 .subst hq hr;exact JX u32 v1
 .subst hq;exact di
 .subst hr;have:=j7 u32 (show v1>0 by omega);omega
 .subst hq;exact afq jx bD hu
 .simp[zP,Vj]
 .rintro⟨q,r⟩ vr vo ⟨h1,h2,h3,h4,rfl,rfl⟩;dsimp only at h1 h2 h3 h4;have hm:q*v0<=4294967297*4294967295:=l7 h4 (by omega);have w1:IntKind.u64.wrap ((q:Int)*(v0:Int))=(q*v0:Nat):=by rw[<-Int.natCast_mul];exact fc (by omega)
  have w2:IntKind.u64.wrap (4294967296*(r:Int))=(4294967296*r:Nat):=by rw[j1 (by omega)];omega
  have w3:IntKind.u64.wrap (((4294967296*r:Nat):Int)+(d:Int))=(4294967296*r+d:Nat):=by rw[j1 (by omega)];omega
  have dm:=dm q r h1;have dl:=dl q r h1;generalize q*v0=M at*;by_cases c:4294967296<=q\/4294967296*r+d<M
  .have aq:=dm c;have w4:IntKind.u64.wrap ((q:Int)-1)=(q-1:Nat):=by rw[j1 (by omega)];omega
   have w5:IntKind.u64.wrap ((r:Int)+(v1:Int))=(r+v1:Nat):=by rw[j1 (by omega)];omega
   have e1:(q-1)*v1+(r+v1)=u32:=by rw[Nat.sub_mul,J0];have:v1<=q*v1:=Nat.le_mul_of_pos_left v1 (by omega);omega
   have um:(4294967296:Int)<=(q:Int)\/4294967296*r+d<M:=by omega
   by_cases c2:4294967296<=r+v1
   .have y3:(4294967296:Int)<=((r+v1:Nat):Int):=by omega
    have:=dd _ _ e1 hu c2;have e2:q-1=QQ:=by omega
    simp[Yv,Ie,h9,gX,zC,w1,w2,w3,w4,w5,um,y3,-Int.natCast_add,-Int.natCast_mul];refine hK _ ?_ ?_
    .simp[w4,e2]
    .intro t ht;simp at ht;simp[ht]
   .have y3:¬(4294967296:Int)<=((r+v1:Nat):Int):=by omega
    simp[Yv,Ie,h9,gX,zC,w1,w2,w3,w4,w5,um,y3,-Int.natCast_add,-Int.natCast_mul];exact⟨q-1,by omega,r+v1,e1,by omega,by omega,by omega,rfl,rfl⟩
  .have:=dl (by omega);have e2:q=QQ:=by omega
   have um:¬((4294967296:Int)<=(q:Int)):=by omega
   have Tj:¬(4294967296*r+d<M):=by omega
   simp[Yv,Ie,h9,gX,zC,w1,w2,w3,um,Tj,-Int.natCast_add,-Int.natCast_mul];refine hK _ ?_ ?_
   .simp[e2]
   .intro t ht;simp at ht;simp[ht]
def bo:Nat->List Cell->Tm->Cell
 |0,_,_=>dj
 |L+1,cs,t=>if t.op=0\/t.op=1 then⟨true,t.n⟩ else if t.op=2 then kz cs t.n else
   if t.op=6/\(bq (t.args.map (bo L cs)) 0).known=true then bq (t.args.map (bo L cs)) (2-(bq (t.args.map (bo L cs)) 0).n).toNat else eR t.op (t.args.map (bo L cs))
def eY:Nat->List Cell->Tm->List Int
 |0,_,_=>[]
 |L+1,cs,t=>if t.op=0\/t.op=1 then[] else if t.op=2 then(if(kz cs t.n).known=true then[] else[t.n]) else
   if t.op=6/\(bq (t.args.map (bo L cs)) 0).known=true then(t.args.map (eY L cs)).getD (2-(bq (t.args.map (bo L cs)) 0).n).toNat [] else
   if(eR t.op (t.args.map (bo L cs))).known=true then[] else(t.args.map (eY L cs)).flatten
def zi (L:Nat)(cs:List Cell)(t:Tm):bo (L+1) cs t=if t.op=0\/t.op=1 then⟨true,t.n⟩ else if t.op=2 then kz cs t.n else
 if t.op=6/\(bq (t.args.map (bo L cs)) 0).known=true then bq (t.args.map (bo L cs)) (2-(bq (t.args.map (bo L cs)) 0).n).toNat else eR t.op (t.args.map (bo L cs)):=rfl
def Oq (L:Nat)(cs:List Cell)(t:Tm):eY (L+1) cs t=if t.op=0\/t.op=1 then[] else if t.op=2 then(if(kz cs t.n).known=true then[] else[t.n]) else
 if t.op=6/\(bq (t.args.map (bo L cs)) 0).known=true then(t.args.map (eY L cs)).getD (2-(bq (t.args.map (bo L cs)) 0).n).toNat [] else
 if(eR t.op (t.args.map (bo L cs))).known=true then[] else(t.args.map (eY L cs)).flatten:=rfl
def MS {L:Nat}{t:Tm}{k:Int}(h:bE (L+1) t=(k,0)):(∀a,a∈t.args->(bE L a).2=0)/\sX t (t.args.map λa=>(bE L a).1)=(k,0):=by
 rw[FG] at h;by_cases e:gd t.args.length (λk=>(bE L (t.args.getD k default)).2)=0
 .rw[if_neg (by simpa using e)] at h;refine⟨λa ha=>?_,h⟩;obtain⟨j,hj,rfl⟩:=gQ ha;have:=M4.1 e j hj;simpa [hj] using this
 .rw[if_pos e] at h;injection h with _ h
  exact absurd h e
inductive Node (ks:List Int) (t:Tm):Int->Prop where
 |int (h:t.op=0) (ha:t.args=[]) (hn:-1099511627776<=t.n/\t.n<=1099511627776):Node ks t 0
 |bool (h:t.op=1) (ha:t.args=[]) (hn:t.n=0\/t.n=1):Node ks t 1
 |var (h:t.op=2) (ha:t.args=[]) (hn:0<=t.n/\t.n<=19):Node ks t (kA t.n).1
 |not (h:t.op=3) (hk:ks=[1]):Node ks t 1
 |log (h:t.op=4\/t.op=5) (hk:ks=[1,1]):Node ks t 1
 |ite (k:Int) (h:t.op=6) (hk:ks=[1,k,k]):Node ks t k
 |less (h:t.op=7) (hk:ks=[0,0]):Node ks t 1
 |equal (k:Int) (h:t.op=8) (hk:ks=[k,k]):Node ks t 1
 |num (h:9<=t.op/\t.op<=13) (hk:ks=[0,0]):Node ks t 0
def aow (v:Int):(kA v).1=0\/(kA v).1=1:=by
 unfold kA;repeat' split
 all_goals simp
def azL {t:Tm}{ks:List Int}{k:Int}(hl:ks.length=t.args.length)(dI:∀x,x∈ks->x=0\/x=1)(h:sX t ks=(k,0)):Node ks t k:=by
 unfold sX at h;split at h
 .injection h with _ h;cases h
 rename_i dB;split at h
 .rename_i h3;unfold sT at h;split at h
  .injection h with _ h;cases h
  rename_i ha0;have ha:t.args=[]:=ad9 (by omega);split at h
  .rename_i h0;split at h
   .injection h with _ h;cases h
   .rename_i hc;injection h with h _
    subst h;refine .int h0 ha ?_;unfold mc at hc;omega
  split at h
  .rename_i h0;split at h
   .injection h with _ h;cases h
   .rename_i hc;injection h with h _
    subst h;exact .bool h0 ha (by omega)
  split at h
  .injection h with _ h;cases h
  .rename_i g0 g1 hc;injection h with h _
   subst h;refine .var (by omega) ha ?_;unfold kA at hc;split at hc
   .simp at hc
   .omega
 rename_i h3;split at h
 .injection h with _ h;cases h
 rename_i hlen;have pX:ks.length=(dL t.op).1.length:=by
  refine EA λhh=>hlen (.inl hh)
 split at h
 .injection h with _ h;cases h
 rename_i aE;have km:∀j,j<(dL t.op).1.length->qd (dL t.op).1 ks j=true:=v8.1 (by simpa using aE)
 have two:∀{n:Nat},ks.length=2->∃a b,ks=[a,b]:=λh=>by
  match ks,h with
  |[a,b],_=>exact⟨a,b,rfl⟩
 by_cases o3:t.op=3
 .have e:dL t.op=([1],1):=by simp[dL,o3]
  rw[e] at pX km h
  match ks,pX with
  |[a],_=>
   have:=km 0 (by simp);simp[qd] at this;simp at h;subst h this;exact .not o3 rfl
 by_cases DK:t.op=4\/t.op=5
 .have e:dL t.op=([1,1],1):=by simp[dL,o3,DK]
  rw[e] at pX km h
  match ks,pX with
  |[a,b],_=>
   have t1:=km 0 (by simp);have t2:=km 1 (by simp);simp[qd] at t1 t2;simp at h;subst h t1 t2;exact .log DK rfl
 by_cases o6:t.op=6
 .have e:dL t.op=([1,-1,-1],-1):=by simp[dL,o6]
  rw[e] at pX km h
  match ks,pX,dI with
  |[a,b,c],_,dI=>
   have t1:=km 0 (by simp);have t3:=km 2 (by simp);have hb:=dI b (by simp);have sA:¬b=-1:=by omega
   simp[qd] at t1;simp[qd,oU,sA] at t3;simp[oU,sA] at h;subst h t1 t3;exact .ite _ o6 rfl
 by_cases o7:t.op=7
 .have e:dL t.op=([0,0],1):=by simp[dL,o7]
  rw[e] at pX km h
  match ks,pX with
  |[a,b],_=>
   have t1:=km 0 (by simp);have t2:=km 1 (by simp);simp[qd] at t1 t2;simp at h;subst h t1 t2;exact .less o7 rfl
 by_cases o8:t.op=8
 .have e:dL t.op=([-1,-1],1):=by simp[dL,o8]
  rw[e] at pX km h
  match ks,pX,dI with
  |[a,b],_,dI=>
   have t2:=km 1 (by simp);have ha:=dI a (by simp);have han:¬a=-1:=by omega
   simp[qd,oU,han] at t2;simp at h;subst h t2;exact .equal _ o8 rfl
 have e:dL t.op=([0,0],0):=by simp[dL,o3,DK,o6,o7,o8]
 rw[e] at pX km h
 match ks,pX with
 |[a,b],_=>
  have t1:=km 0 (by simp);have t2:=km 1 (by simp);simp[qd] at t1 t2;simp at h;subst h t1 t2;exact .num (by omega) rfl
def FH:∀{L:Nat} {t:Tm} {k:Int},bE (L+1) t=(k,0)->Node (t.args.map λa=>(bE L a).1) t k/\(k=0\/k=1)
 |L,t,k,h=>by
  obtain⟨h1,h2⟩:=MS h
  have dI:∀x,x∈(t.args.map λa=>(bE L a).1)->x=0\/x=1:=by
   intro x hx;obtain⟨a,ha,rfl⟩:=fF.1 hx;cases L with
   |zero=>exact .inl rfl
   |succ L=>exact(FH (L:=L) (t:=a) (k:=(bE (L+1) a).1) (by rw[<-h1 a ha])).2
  have hn:=azL (by simp) dI h2;refine⟨hn,?_⟩;cases hn with
  |int=>simp
  |bool=>simp
  |var=>exact aow _
  |not=>simp
  |log=>simp
  |ite k _ hk=>exact dI k (by rw[hk];simp)
  |less=>simp
  |equal=>simp
  |num=>simp
end Rm
