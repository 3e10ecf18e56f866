/-
  Shared texts of this claim.
-/
import Derived.Test.YtefchokhgdmamaaGreatDoorMAR
set_option linter.defProp false
set_option linter.unusedSimpArgs false
set_option linter.unusedVariables false
namespace Rm
open Go Go.Proofs Cx
def aht (x y:Fact):au T 40 [fG y,fG x] (.bool (dL x y)):=by
 refine zyv 99 awb ?_;unfold dL;by_cases h1:x.at_<y.at_<;>by_cases h2:y.at_=x.at_<;>by_cases h3:x.kind<y.kind<;>simp[V4,h1,h2,h3]
def iz (x y:Fact):Bool:=decide (y.kind=x.kind)&&decide (y.at_=x.at_)
def gh (x:Fact)(l:List Fact):Bool:=l.any λy=>iz x y||dL x y
def gZ (x:Fact)(l:List Fact):List Fact:=l.filter (jQ x)++(if gh x l=true then[x] else[])++l.filter (dL x)
def Hq (x y:Fact):(jQ x y=true/\iz x y=false/\dL x y=false)\/(jQ x y=false/\iz x y=true/\dL x y=false)\/(jQ x y=false/\iz x y=false/\dL x y=true):=by
 unfold jQ iz dL;by_cases h1:y.at_<x.at_
 .left;have:¬x.at_<y.at_:=by omega
  have h2:¬y.at_=x.at_:=by omega
  simp[h1,this,h2]
 by_cases h2:x.at_<y.at_
 .right;right;have h3:¬y.at_=x.at_:=by omega
  simp[h1,h2,h3]
 have h3:y.at_=x.at_:=by omega
 by_cases h4:y.kind<x.kind
 .left;have h5:¬y.kind=x.kind:=by omega
  have h6:¬x.kind<y.kind:=by omega
  simp[h3,h4,h5,h6]
 by_cases h5:x.kind<y.kind
 .right;right;have h6:¬y.kind=x.kind:=by omega
  simp[h3,h4,h5,h6]
 .right;left;have h6:y.kind=x.kind:=by omega
  simp[h3,h6]
def asa {l:List Fact}(hs:l.Pairwise ct)(x:Fact)(k:Nat)(hk:k<l.length):
 (jQ x l[k]=true->gh x (l.take k)=false/\gZ x (l.take (k+1))=gZ x (l.take k)++[l[k]]/\gh x (l.take (k+1))=false)/\
 (iz x l[k]=true->gh x (l.take k)=false/\gZ x (l.take (k+1))=gZ x (l.take k)++[x]/\gh x (l.take (k+1))=true)/\
 (dL x l[k]=true->gZ x (l.take (k+1))=(if gh x (l.take k)=true then gZ x (l.take k)++[l[k]] else gZ x (l.take k)++[x]++[l[k]])/\gh x (l.take (k+1))=true/\(gh x (l.take k)=false->(l.any (iz x))=false)):=by
 have hp:=zS.1 hs;have ht:l.take (k+1)=l.take k++[l[k]]:=ql hk;have hP:gh x (l.take (k+1))=(gh x (l.take k)||(iz x l[k]||dL x l[k])):=by unfold gh;rw[ht,NP];simp
 have mem:∀y,y∈l.take k->ct y l[k]:=λy hy=>by
  obtain⟨j,hj,rfl⟩:=gn hy;have bh:j<k/\j<l.length:=by simp at hj;omega
  rw[HT];exact hp j k bh.2 hk bh.1
 have key:∀y,(y.kind=x.kind/\y.at_=x.at_)↔iz x y=true:=λy=>by simp[iz]
 have lts:dL x l[k]=false->gh x (l.take k)=false/\(l.take k).filter (dL x)=[]:=λhg=>by
  have aI:∀y,y∈l.take k->iz x y=false/\dL x y=false:=λy hy=>by
   have ha:=mem y hy;have hng:¬ct x l[k]:=λe=>by rw[(qA x _).2 e] at hg;cases hg
   have h1:¬ct x y:=λe=>hng (H8 e ha);have h2:¬(y.kind=x.kind/\y.at_=x.at_):=λe=>hng (by unfold ct at ha ⊢;omega);refine⟨?_,?_⟩
   .cases e:iz x y with
    |false=>rfl
    |true=>exact absurd ((key y).2 e) h2
   .cases e:dL x y with
    |false=>rfl
    |true=>exact absurd ((qA x y).1 e) h1
  refine⟨?_,zM.2 λy hy=>by rw[(aI y hy).2];decide⟩;unfold gh;rw[zL];intro y hy;rw[(aI y hy).1,(aI y hy).2];decide
 have hO:gZ x (l.take (k+1))=((l.take k).filter (jQ x)++if jQ x l[k]=true then[l[k]] else[])++(if gh x (l.take (k+1))=true then[x] else[])++((l.take k).filter (dL x)++if dL x l[k]=true then[l[k]] else[]):=by
  have f1:∀p:Fact->Bool,(l.take (k+1)).filter p=(l.take k).filter p++if p l[k]=true then[l[k]] else[]:=λp=>by
   rw[ht,Dh]
   congr 1
   cases e:p l[k]<;>simp[e]
  unfold gZ;rw[f1,f1]
 refine⟨λh=>?_,λh=>?_,λh=>?_⟩
 .rcases Hq x l[k] with⟨a,b,c⟩|⟨a,b,c⟩|⟨a,b,c⟩
  .obtain⟨h1,h2⟩:=lts c;have h3:gh x (l.take (k+1))=false:=by rw[hP,h1,b,c];rfl
   refine⟨h1,?_,h3⟩;rw[hO,h3,h2,a,c];unfold gZ;rw[h1,h2];simp
  .rw[h] at a;cases a
  .rw[h] at a;cases a
 .rcases Hq x l[k] with⟨a,b,c⟩|⟨a,b,c⟩|⟨a,b,c⟩
  .rw[h] at b;cases b
  .obtain⟨h1,h2⟩:=lts c;have h3:gh x (l.take (k+1))=true:=by rw[hP,h1,b,c];rfl
   refine⟨h1,?_,h3⟩;rw[hO,h3,h2,a,c];unfold gZ;rw[h1,h2];simp
  .rw[h] at b;cases b
 .rcases Hq x l[k] with⟨a,b,c⟩|⟨a,b,c⟩|⟨a,b,c⟩
  .rw[h] at c;cases c
  .rw[h] at c;cases c
  .have h3:gh x (l.take (k+1))=true:=by rw[hP,c,b];simp
   refine⟨?_,h3,λhn=>?_⟩
   .rw[hO,h3,a,c];unfold gZ;cases h1:gh x (l.take k)
    .have h2:(l.take k).filter (dL x)=[]:=zM.2 λy hy e=>by
       unfold gh at h1;have:=zL.1 h1 y hy;rw[e] at this;simp at this
     rw[h2];simp
    .simp
   .rw[zL];intro y hy gz;obtain⟨j,hj,rfl⟩:=gn hy;rcases Nat.lt_trichotomy j k with yu|rfl|yu
    .unfold gh at hn;have hm:l[j]∈l.take k:=List.mem_take_iff_getElem.2 ⟨j,by omega,rfl⟩;have:=zL.1 hn _ hm;rw[gz] at this;simp at this
    .rw[b] at gz;cases gz
    .have ha:=hp k j hk hj yu;have hg:=(qA x _).1 c;have yJ:=(key _).2 gz;unfold ct at ha hg;omega
def ar9 {l:List Fact}(hs:l.Pairwise ct)(x:Fact):my l x=if gh x l=true then gZ x l else gZ x l++[x]:=by
 unfold my gZ;split
 .simp
 .rename_i h
  have h2:l.filter (dL x)=[]:=zM.2 λy hy e=>by
   have h:gh x l=false:=by simpa using h
   unfold gh at h;have:=zL.1 h y hy;rw[e] at this;simp at this
  rw[h2];simp
def aek (x:Fact)(l:List Fact):(gZ x l).length<=l.length+1:=by
 have h:(l.filter (jQ x)).length+(l.filter (dL x)).length<=l.length:=by
  induction l with
  |nil=>simp
  |cons y l ih=>rcases Hq x y with⟨a,b,c⟩|⟨a,b,c⟩|⟨a,b,c⟩<;>simp[a,c]<;>omega
 unfold gZ;split<;>simp<;>omega
def ae7 {f:File}(hs:f.facts.Pairwise ct)(hl:f.facts.length<=100000)(k a n:Int):au T 17 [cr f,.int k,.int a,.int n] (cr (qa f (fx k a n))):=by
 refine zyv 98 awf ?_;simp[V8];refine aP.forRounds f.facts.length (λi=>[.bool ((f.facts.take i).any (iz (fx k a n))),.int i]) (λ_=>[]) ?_ (λi hi=>?_) ?_
 .simp
 .have hw:=br hi (by omega);have e:(f.facts.take (i+1)).any (iz (fx k a n))=((f.facts.take i).any (iz (fx k a n))||iz (fx k a n) f.facts[i]):=by
   rw[ql hi,NP];simp
  rw[e];generalize (f.facts.take i).any (iz (fx k a n))=A;unfold iz fx;cases A<;>by_cases k1:f.facts[i].kind=k<;>by_cases k2:f.facts[i].at_=a<;>simp[afw,ML,hi,hw,k1,k2]
 .rw[Dk];simp[afw,ML];have hX:(n=0/\fx k a n=⟨k,a,0⟩)\/(n≠0/\fx k a n=⟨k,a,1⟩):=by
   by_cases h:n=0
   .exact .inl ⟨h,by simp[fx,h]⟩
   .exact .inr ⟨h,by simp[fx,h]⟩
  obtain⟨m,hm,hX⟩:∃m:Int,((n=0/\m=0)\/(n≠0/\m=1))/\fx k a n=⟨k,a,m⟩:=by
   rcases hX with⟨h1,h2⟩|⟨h1,h2⟩
   .exact⟨0,.inl ⟨h1,rfl⟩,h2⟩
   .exact⟨1,.inr ⟨h1,rfl⟩,h2⟩
  rw[hX];obtain⟨x,hx⟩:∃x:Fact,x=⟨k,a,m⟩:=⟨_,rfl⟩
  rw[<-hx];have hxk:k=x.kind:=by rw[hx]
  have kS:a=x.at_:=by rw[hx]
  have yT:m=x.n:=by rw[hx]
  refine aP.forRounds f.facts.length (λi=>[.none,.bool (gh x (f.facts.take i)),.int i]) (λi=>[facts (gZ x (f.facts.take i))]) ?_ (λi hi=>?_) ?_
  .simp[gh,gZ];rfl
  .have hw:=br hi (by omega);have bZ:=asa hs x i hi;have Bp:=aht x f.facts[i];have BI:=aek x (f.facts.take i);have aCc:(f.facts.take i).length<=i:=by rw[dv];omega
   have yJ:iz x f.facts[i]=(decide (f.facts[i].kind=k)&&decide (f.facts[i].at_=a)):=by unfold iz;rw[hxk,kS]
   have hE:D.agg [.int k,.int a,.int m]=fG x:=by rw[hx];rfl
   have jP:eh [D.int k,D.int a,D.int 1] 2 [D.int 0]=[D.int k,D.int a,D.int 0]:=rfl;have kc:∀(l:List Fact) (y:Fact),D.list (List.map fG l++[fG y])=facts (l++[y]):=λl y=>by unfold facts;rw[mB];rfl
   have Bq:∀(l:List Fact) (y z:Fact),D.list (List.map fG l++[fG y,fG z])=facts (l++[y,z]):=λl y z=>by unfold facts;rw[mB];rfl
   have hlen:((gZ x (f.facts.take i)).length:Int)+1<=4294967296:=by omega
   have aaw:((gZ x (f.facts.take i)).length:Int)+1+1<=4294967296:=by omega
   rcases Hq x f.facts[i] with⟨a1,b1,c1⟩|⟨a1,b1,c1⟩|⟨a1,b1,c1⟩
   .obtain⟨g1,g2,g3⟩:=bZ.1 a1;rw[g1,g2,g3];rw[b1] at yJ;rw[c1] at Bp;have kl:=yJ.symm;rw[Bool.and_eq_false_iff,decide_eq_false_iff_not,decide_eq_false_iff_not] at kl;have Fi:f.facts[i].kind=k->¬f.facts[i].at_=a:=λe1 e2=>kl.elim (λh=>h e1) (λh=>h e2);clear bZ;generalize hO:gZ x (f.facts.take i)=zzv at*;cases qT:f.facts.any (iz x)<;>rcases hm with⟨n0,rfl⟩|⟨n0,rfl⟩
    .simp[m7,lK,hi,hw,n0,jP,hE,kl,kc];exact⟨_,Bp,⟨Fi,rfl⟩,hlen⟩
    .simp[m7,lK,hi,hw,n0,jP,hE,kl,kc];exact⟨_,Bp,⟨Fi,rfl⟩,hlen⟩
    .simp[m7,lK,hi,hw,n0,jP,hE,kl,kc];exact⟨Fi,hlen⟩
    .simp[m7,lK,hi,hw,n0,jP,hE,kl,kc];exact⟨Fi,hlen⟩
   .obtain⟨g1,g2,g3⟩:=bZ.2.1 b1;rw[g1,g2,g3];rw[b1] at yJ;have kl:=yJ.symm;rw[aq,decide_eq_true_eq,decide_eq_true_eq] at kl;have qT:f.facts.any (iz x)=true:=tz.2 ⟨_,cY hi,b1⟩;clear bZ;generalize hO:gZ x (f.facts.take i)=zzv at*;rcases hm with⟨n0,rfl⟩|⟨n0,rfl⟩
    .simp[m7,lK,hi,hw,n0,jP,hE,kl,kc,qT];exact hlen
    .simp[m7,lK,hi,hw,n0,jP,hE,kl,kc,qT];exact hlen
   .obtain⟨g2,g3,g1⟩:=bZ.2.2 c1;rw[g2,g3];rw[b1] at yJ;rw[c1] at Bp;have kl:=yJ.symm;rw[Bool.and_eq_false_iff,decide_eq_false_iff_not,decide_eq_false_iff_not] at kl;have Fi:f.facts[i].kind=k->¬f.facts[i].at_=a:=λe1 e2=>kl.elim (λh=>h e1) (λh=>h e2);clear bZ;generalize hO:gZ x (f.facts.take i)=zzv at*;cases hp:gh x (f.facts.take i)
    .have qT:=g1 hp;rcases hm with⟨n0,rfl⟩|⟨n0,rfl⟩
     .simp[m7,lK,hi,hw,n0,jP,hE,kl,kc,Bq,qT];exact⟨_,Bp,.inr rfl,hlen,by omega⟩
     .simp[m7,lK,hi,hw,n0,jP,hE,kl,kc,Bq,qT];exact⟨_,Bp,.inr rfl,hlen,by omega⟩
    .cases qT:f.facts.any (iz x)<;>rcases hm with⟨n0,rfl⟩|⟨n0,rfl⟩
     .simp[m7,lK,hi,hw,n0,jP,hE,kl,kc,Bq,qT];exact hlen
     .simp[m7,lK,hi,hw,n0,jP,hE,kl,kc,Bq,qT];exact hlen
     .simp[m7,lK,hi,hw,n0,jP,hE,kl,kc,Bq,qT];exact hlen
     .simp[m7,lK,hi,hw,n0,jP,hE,kl,kc,Bq,qT];exact hlen
  .rw[Dk];have jP:eh [D.int k,D.int a,D.int 1] 2 [D.int 0]=[D.int k,D.int a,D.int 0]:=rfl;have hE:D.agg [.int k,.int a,.int m]=fG x:=by rw[hx];rfl
   have BI:=aek x f.facts;have uh:=ar9 hs x;have kc:∀(l:List Fact) (y:Fact),D.list (List.map fG l++[fG y])=facts (l++[y]):=λl y=>by unfold facts;rw[mB];rfl
   cases hp:gh x f.facts
   .rw[hp] at uh;rcases hm with⟨n0,rfl⟩|⟨n0,rfl⟩
    .simp[m7,lK,n0,jP,hE,kc];refine⟨by omega,?_⟩;show _=cr {f with facts:=my f.facts x};rw[uh];rfl
    .simp[m7,lK,n0,jP,hE,kc];refine⟨by omega,?_⟩;show _=cr {f with facts:=my f.facts x};rw[uh];rfl
   .rw[hp] at uh;simp[m7,lK];show _=cr {f with facts:=my f.facts x};rw[uh];rfl
def TB (r:Realm)(hr:Right r)(ls:ic r=0)(iS:r.cities.length<=100000)(a b q:Int)(c:Case)(hf:FewS c.file):au T 14 [bB r,.int a,.int b,.int q,cq c] (.int (ln r a b q c)):=by
 refine zyv 100 awd ?_;simp[V6];refine⟨_,ae5 r hr ls iS a q c hf,_,ae5 r hr ls iS b q c hf,?_⟩;unfold ln Pn;generalize oc r a q c=x;generalize oc r b q c=y;by_cases h1:x.err=0<;>by_cases h2:y.err=0<;>cases h3:x.cell.known<;>cases h4:y.cell.known<;>by_cases h5:x.cell.n=y.cell.n<;>simp[D3,cu,h1,h2,h3,h4,h5]
def as9 (c:Case)(ks vs:List Int)(hl:ks.length<=60)(hv:vs.length<=60)(hs:SortF c.file 1000):au T 62 [cq c,ints ks,ints vs] (cq (ve c ks vs)):=by
 refine zyv 96 awj ?_;simp[Wb];refine aP.forRounds (min ks.length vs.length) (λi=>[.int i]) (λi=>[cq (lP c ks vs i)]) ?_ (λi hi=>?_) ?_
 .simp[lP]
 .have oy:i<ks.length:=by omega
  have yq:i<vs.length:=by omega
  have hw:=br oy (by omega);have lz:=ae7 (NJ hs ks vs i).sorted (cn (NJ hs ks vs i).len (by omega)) (ks.getD i 0) (tg c (ks.getD i 0)) (vs.getD i 0);have bU:=as6 (lP c ks vs i) (ks.getD i 0);have Rh:tg (lP c ks vs i) (ks.getD i 0)=tg c (ks.getD i 0):=by unfold tg;rw[(NI c ks vs i).1,(NI c ks vs i).2.1]
  rw[Rh] at bU;have hg:ks.getD i 0=ks[i]:=by simp[oy]
  have dx:vs.getD i 0=vs[i]:=by simp[yq]
  have hN:lP c ks vs (i+1)=M9 (lP c ks vs i) ks[i] (tg c ks[i]) vs[i]:=by rw[<-hg,<-dx];rfl
  rw[hg,dx] at lz;rw[hg] at bU;simp[afy,MN,oy,yq,hw];refine⟨_,bU,_,lz,?_⟩;rw[hN];rfl
 .have:¬((min ks.length vs.length:Nat)<ks.length/\(min ks.length vs.length:Nat)<vs.length):=by omega
  simp[afy,MN];exact⟨λh=>by omega,rfl⟩
def om (r:Realm)(a b q:Int)(c:Case)(k v:List Int):Bool:=decide (ln r a b q (ve c k v)≠2)&&decide (ln r a b q (ve c k v)≠ln r a b q c)
def as8 (r:Realm)(hr:Right r)(ls:ic r=0)(iS:r.cities.length<=100000)(a b q:Int)(c:Case)(hf:FewS c.file)(hs:SortF c.file 900)(k v:List Int)(hl:k.length<=60)(hv:v.length<=60):
 au T 29 [bB r,.int a,.int b,.int q,cq c,ints k,ints v] (.bool (om r a b q c k v)):=by
 refine zyv 95 awi ?_;simp[Wa];refine⟨_,as9 c k v hl hv ⟨hs.sorted,cn hs.len (by omega)⟩,_,TB r hr ls iS a b q _ (axE hs hf k v hl),?_⟩;have h2:=TB r hr ls iS a b q c hf;unfold om;generalize ln r a b q (ve c k v)=x;generalize ln r a b q c=y at*;by_cases h:x=2
 .simp[h]
 .simp[h];refine⟨_,h2,?_⟩;by_cases h':x=y<;>simp[h']
def eZ (r:Realm)(a b q:Int)(c:Case):Nat->Bool×List Int×List Int
 |0=>(false,[],[])
 |i+1=>if((!(eZ r a b q c i).1||nr (bR (i+1)).1 (bR (i+1)).2 (eZ r a b q c i).2.1 (eZ r a b q c i).2.2)&&om r a b q c (bR (i+1)).1 (bR (i+1)).2)=true then(true,(bR (i+1)).1,(bR (i+1)).2) else eZ r a b q c i
def MY (r:Realm)(a b q:Int)(c:Case):List Int×List Int×Bool:=
 if rR c=true then((eZ r a b q c 242).2.1,(eZ r a b q c 242).2.2,(eZ r a b q c 242).1) else([],[],false)
def as7 (r:Realm)(hr:Right r)(ls:ic r=0)(iS:r.cities.length<=100000)(a b q:Int)(c:Case)(hf:FewS c.file)(hs:SortF c.file 900):au T 11 [bB r,.int a,.int b,.int q,cq c] (xW (MY r a b q c)):=by
 refine zyv 92 awh ?_;unfold MY;by_cases hc:rR c=true
 case neg=>
  rw[if_neg hc];simp[rR] at hc;simp[NB];rw[if_pos (by omega)];rfl
 rw[if_pos hc];simp[rR] at hc;simp[NB];rw[if_neg (by omega)];refine aP.forRounds 242 (λi=>[.bool (eZ r a b q c i).1,ints (eZ r a b q c i).2.1,ints (eZ r a b q c i).2.2,.int ((i:Int)+1)]) (λ_=>[]) ?_ (λi hi=>?_) ?_
 .simp[eZ];rfl
 .have hw:IntKind.i64.wrap ((i:Int)+1+1)=(i:Int)+1+1:=bu (by omega);have ah:(i:Int)+1<243:=by omega
  have hL:=ahM (i+1) (by omega);have qK:=RQ (i+1) 5;have hS:eZ r a b q c (i+1)=if((!(eZ r a b q c i).1||nr (bR (i+1)).1 (bR (i+1)).2 (eZ r a b q c i).2.1 (eZ r a b q c i).2.2)&&om r a b q c (bR (i+1)).1 (bR (i+1)).2)=true then(true,(bR (i+1)).1,(bR (i+1)).2) else eZ r a b q c i:=rfl;rw[hS];have anF:(bR (i+1)).1.length<=60:=by have:=qK.1;unfold bR;omega
  have aaw:(bR (i+1)).2.length<=60:=by have:=qK.1;have:=qK.2;unfold bR;omega
  have hT:=as8 r hr ls iS a b q c hf hs _ _ anF aaw;have hB:=λk v=>ahv (bR (i+1)).1 (bR (i+1)).2 k v (by omega) (by omega)
  push_cast at hL
  generalize bR (i+1)=L at*;generalize eZ r a b q c i=S at*;obtain⟨ks,vs⟩:=L;obtain⟨f,k0,v0⟩:=S;simp only at*;have hB0:=hB k0 v0;generalize om r a b q c ks vs=G at*;generalize nr ks vs k0 v0=B at*;simp[afx,MM,ah,hw];refine⟨_,hL,?_⟩;cases f
  .simp;refine⟨_,hT,?_⟩;cases G<;>simp[hw]
  .simp;refine⟨_,hB0,?_⟩;cases B
   .simp[hw]
   .simp;refine⟨_,hT,?_⟩;cases G<;>simp[hw]
 .simp[afx,MM];generalize eZ r a b q c 242=S;rfl
def apv:((List.range 242).all λn=> !(bR (n+1)).1.isEmpty)=true:=by kernel_rfl
def axc:(Hr.all λx=>(List.range 242).any λn=>bR (n+1)==x)=true:=by kernel_rfl
def PV {r:Realm}{a b q:Int}{c:Case}(hh:-1<=c.holder){x:List Int×Int}(hx:x∈kX):je r a b q c x=om r a b q c x.1 (iK x):=by
 unfold je om;rw[axF hh (axa hx).2.2]
def afM (r:Realm)(a b q:Int)(c:Case):∀n,
 ((eZ r a b q c n).1=false->(eZ r a b q c n).2=([],[])/\∀j,j<n->om r a b q c (bR (j+1)).1 (bR (j+1)).2=false)/\
 ((eZ r a b q c n).1=true->(∃j,j<n/\bR (j+1)=(eZ r a b q c n).2/\om r a b q c (bR (j+1)).1 (bR (j+1)).2=true)/\
   ∀j,j<n->om r a b q c (bR (j+1)).1 (bR (j+1)).2=true->nr (bR (j+1)).1 (bR (j+1)).2 (eZ r a b q c n).2.1 (eZ r a b q c n).2.2=false)
 |0=>⟨λ_=>⟨rfl,λj hj=>by omega⟩,λh=>by cases h⟩
 |n+1=>by
  obtain⟨i1,i2⟩:=afM r a b q c n;have hS:eZ r a b q c (n+1)=if((!(eZ r a b q c n).1||nr (bR (n+1)).1 (bR (n+1)).2 (eZ r a b q c n).2.1 (eZ r a b q c n).2.2)&&om r a b q c (bR (n+1)).1 (bR (n+1)).2)=true then(true,(bR (n+1)).1,(bR (n+1)).2) else eZ r a b q c n:=rfl;rw[hS];generalize eZ r a b q c n=S at*;obtain⟨f,k0,v0⟩:=S;simp only at*;by_cases hg:((!f||nr (bR (n+1)).1 (bR (n+1)).2 k0 v0)&&om r a b q c (bR (n+1)).1 (bR (n+1)).2)=true
  .rw[if_pos hg];rw[aq,fQ] at hg;refine⟨λh=>(by cases h),λ_=>⟨⟨n,(by omega),rfl,hg.2⟩,λj hj ox=>?_⟩⟩;by_cases ET:j=n
   .subst ET;show nr _ _ _ _=false;rw[O3,lex_irrefl]
   .have bh:j<n:=by omega
    cases f with
    |false=>rw[(i1 rfl).2 j bh] at ox;cases ox
    |true=>
     have hb:nr (bR (n+1)).1 (bR (n+1)).2 k0 v0=true:=by simpa using hg.1
     have h0:=(i2 rfl).2 j bh ox;cases e:nr (bR (j+1)).1 (bR (j+1)).2 (bR (n+1)).1 (bR (n+1)).2 with
     |false=>first|rfl|exact e
     |true=>
      rw[O3] at e hb h0;rw[lex_trans e hb] at h0;cases h0
  .rw[if_neg hg];rw[aq,fQ] at hg;refine⟨λh=>?_,λh=>?_⟩
   .have h:f=false:=h;subst h;refine⟨(i1 rfl).1,λj hj=>?_⟩;by_cases ET:j=n
    .subst ET;cases e:om r a b q c (bR (j+1)).1 (bR (j+1)).2 with
     |false=>rfl
     |true=>exact absurd ⟨.inl rfl,e⟩ hg
    .exact(i1 rfl).2 j (by omega)
   .have h:f=true:=h;subst h;obtain⟨⟨j,hj,e1,e2⟩,h2⟩:=i2 rfl;refine⟨⟨j,by omega,e1,e2⟩,λj hj ox=>?_⟩;by_cases ET:j=n
    .subst ET;cases e:nr (bR (j+1)).1 (bR (j+1)).2 k0 v0 with
     |false=>first|rfl|exact e
     |true=>exact absurd ⟨.inr e,ox⟩ hg
    .exact h2 j (by omega) ox
def atD (r:Realm)(a b q:Int)(c:Case):MY r a b q c=tj r a b q c:=by
 unfold MY tj;by_cases hc:rR c=true
 case neg=>rw[if_neg hc,if_neg hc]
 rw[if_pos hc,if_pos hc];have hh:-1<=c.holder:=by simp[rR] at hc;omega
 obtain⟨i1,i2⟩:=afM r a b q c 242
 have toT:∀j,j<242->∃x,x∈kX/\x.1=(bR (j+1)).1/\iK x=(bR (j+1)).2:=λj hj=>by
  refine apw (j+1) (by omega) λe=>?_;have:=bJ.1 apv j (cm.2 hj);rw[e] at this;cases this
 have toK:∀x,x∈kX->∃j,j<242/\bR (j+1)=(x.1,iK x):=λx hx=>by
  have hm:(x.1,iK x)∈Hr:=by rw[<-agH];exact dX.2 ⟨x,hx,rfl⟩
  have:=bJ.1 axc _ hm;obtain⟨j,hj,e⟩:=tz.1 this;exact⟨j,cm.1 hj,by simpa using e⟩
 generalize eZ r a b q c 242=S at*;obtain⟨f,k0,v0⟩:=S;simp only at*;cases f with
 |false=>
  obtain⟨e0,h0⟩:=i1 rfl;have hn:kX.find? (je r a b q c)=none:=by
   rw[qk];intro x hx hg;obtain⟨j,hj,e⟩:=toK x hx;have:=h0 j hj;rw[e] at this;rw[PV hh hx,this] at hg;cases hg
  rw[hn];obtain⟨rfl,rfl⟩:=Prod.mk.inj e0;rfl
 |true=>
  obtain⟨⟨j,hj,e1,e2⟩,h2⟩:=i2 rfl;obtain⟨x,hx,x1,x2⟩:=toT j hj;have Qu:je r a b q c x=true:=by rw[PV hh hx,x1,x2];exact e2
  have ex:x.1=k0/\iK x=v0:=by rw[x1,x2,e1];exact⟨rfl,rfl⟩
  cases KE:kX.find? (je r a b q c) with
  |none=>exact absurd Qu (by simpa using qk.1 KE x hx)
  |some x0=>
   have dg:=rI KE;have BB:=HP KE;obtain⟨j0,Qx,ej⟩:=toK x0 dg;have hb:=h2 j0 Qx (by rw[ej];rw[PV hh dg] at BB;exact BB);rw[ej] at hb;have eA:dG (pR x0) (pR x) false=false:=by
        unfold pR;rw[ex.1,ex.2,<-O3];exact hb
   have dz:dG (pR x) (pR x0) false=false:=by
        cases e:dG (pR x) (pR x0) false with
        |false=>rfl
        |true=>rw[akH KE hx e] at Qu;cases Qu
   have km:x=x0:=by
        obtain⟨us,bs,e⟩:=NQ dg;have hs:=agI;rw[e] at hs hx;have hp:=HX.1 hs;rcases dm.1 hx with hm|hm
        .rw[hp.2.2 x hm x0 (by simp)] at dz;cases dz
        .rcases cZ.1 hm with rfl|hm
         .rfl
         .rw[(xF.1 hp.2.1).1 x hm] at eA;cases eA
   subst km;show(k0,v0,true)=(x.1,iK x,true)
   rw[ex.1,ex.2]
def ahw (r:Realm)(hr:r.OK)(a b q:Int)(c:Case)(hc:c.OK)(k at_ n:Int):au T 3 [bB r,.int a,.int b,.int q,cq c,.int k,.int at_,.int n] (.bool true):=by
 refine zyv 0 ava ?_;simp[Vg];obtain⟨e,he,hF⟩:=akE r hr c hc.1;refine⟨_,at7,_,he,?_⟩;cases e
 .simp
 have F:=hF rfl;have iS:r.cities.length<=100000:=by have:=F.good.rightD.small.cities;omega
 have BP:SortF c.file 900:=⟨F.facts,F.len⟩
 have ht:=F.turn a b q;have hd:=F.differ a b q;have BQ:=as7 r F.good.right F.check iS a b q c F.good.few BP;rw[atD] at BQ;have fI:=TB r F.good.right F.check iS a b q c F.good.few;have lz:=UN F.facts (cn F.len (by omega)) k at_ n;have aoz:=ae7 F.facts (cn F.len (by omega)) k at_ n;have oA:=(BP.set (fx k at_ n)).len;have gz:=asM (qa c.file (fx k at_ n)) (cn F.good.few.1 (by omega)) (cn F.good.few.2 (by omega)) (cn F.good.few.3 (by omega)) (cn oA (by omega));obtain⟨l1,l2⟩:=axb r a b q c;generalize tj r a b q c=t at*;obtain⟨K,zzu,is⟩:=t;have h3:=H5 K K (cn l1 (by omega));have h4:=H5 zzu zzu (cn l2 (by omega));simp;refine⟨_,ht,_,BQ,?_⟩;simp[xW];refine⟨_,h3,?_⟩;simp;refine⟨_,h4,?_⟩;simp;refine⟨_,hd,_,fI,?_⟩;simp;exact⟨_,lz,_,aoz,gz⟩
end Rm
