/-
  Shared texts of this claim.
-/
import Derived.Test.YtefchokhgdmamaaGreatDoorMAQ
set_option linter.defProp false
set_option linter.unusedSimpArgs false
set_option linter.unusedVariables false
open Go.IntKind (i64)
namespace Rm
open Go Go.Proofs Cx
def gA:Nat->Nat->List (List Int)
 |0,_=>[[]]
 |s+1,k=>(List.range (5-k)).flatMap λi=>(gA s (k+i+1)).map λl=>((k+i:Nat):Int)::l
def Zv {α β:Type}(f:α->List β)(n:Nat)(h:∀a,(f a).length<=n)(l:List α):(l.flatMap f).length<=l.length*n:=by
 induction l with
 |nil=>simp
 |cons a l ih=>
  rw[tA,jY,mA,Nat.succ_mul];have:=h a;omega
def Lo:∀(s k:Nat),(gA s k).length<=5^s
 |0,_=>by simp[gA]
 |s+1,k=>by
  have:=Zv (λi=>(gA s (k+i+1)).map λl=>((k+i:Nat):Int)::l) (5^s) (λi=>by rw[gp];exact Lo s _) (List.range (5-k));rw[HU] at this;show((List.range (5-k)).flatMap _).length<=_;refine cn this ?_;rw[Nat.pow_succ,N2 (5^s)];exact nY _ (by omega)
def FF:∀(s k:Nat),∀l,l∈gA s k->l.length=s
 |0,_,l,h=>by simp[gA] at h;simp[h]
 |s+1,k,l,h=>by
  obtain⟨i,_,h⟩:=iM.1 h;obtain⟨l',h',rfl⟩:=dX.1 h;simp[FF s _ l' h']
def RR:∀(s:Nat),s<=5->∀(k:Nat),k<=6->au T 27 [.int s,.int k] (.list ((gA s k).map ints))
 |0,_,k,_=>by
  refine .of_tree rfl Yc agA ?_;simp[Nu,gA]
  try rfl
 |s+1,hs,k,hk=>by
  have ih:=RR s (by omega);refine .of_tree rfl Yc agA ?_;have h0:¬((s:Int)+1=0):=by omega
  simp[Nu,h0]
  have hF:gA (s+1) k=(List.range (5-k)).flatMap λi=>(gA s (k+i+1)).map λl=>((k:Int)+i)::l:=by
   show(List.range (5-k)).flatMap _=_
   congr 1
  have hlen:∀i,i<=5-k->((List.range i).flatMap λi=>(gA s (k+i+1)).map λl=>((k:Int)+i)::l).length<=5*5^s:=λi hi=>by
   have:=Zv (λi:Nat=>(gA s (k+i+1)).map λl=>((k:Int)+i)::l) (5^s) (λi=>by rw[gp];exact Lo s _) (List.range i);rw[HU] at this;exact cn this (nY _ (by omega))
  have h5:5^s<=3125:=cn (XS (by omega) (show s<=5 by omega)) (by decide);refine aP.forRounds (5-k) (λi=>[.none,.int ((k:Int)+i)]) (λi=>[.list (((List.range i).flatMap λi=>(gA s (k+i+1)).map λl=>((k:Int)+i)::l).map ints)]) ?_ (λi hi=>?_) ?_
  .simp
  .have ah:(k:Int)+i<5:=by omega
   have eN:i64.wrap (s:Int)=s:=bu (by omega);have fL:i64.wrap ((k:Int)+i+1)=((k+i+1:Nat):Int):=by rw[bu (by omega)];omega
   have hr:=ih (k+i+1) (by omega)
   have hR:((List.range (i+1)).flatMap λi=>(gA s (k+i+1)).map λl=>((k:Int)+i)::l)=((List.range i).flatMap λi=>(gA s (k+i+1)).map λl=>((k:Int)+i)::l)++(gA s (k+i+1)).map λl=>((k:Int)+i)::l:=by
    rw[N1,XJ];simp
   have hP:=hlen i (by omega);have hPi:=hlen (i+1) (by omega);rw[hR] at hPi;have hXl:=Lo s (k+i+1);have hXe:=FF s (k+i+1);simp[afk,Mx,ah,eN,fL];rw[hR];generalize ((List.range i).flatMap λi=>(gA s (k+i+1)).map λl=>((k:Int)+i)::l)=P at*;generalize gA s (k+i+1)=X at*;refine⟨_,hr,?_⟩;refine aP.forRounds X.length (λj=>[.none,.int j]) (λj=>[.list ((P++(X.take j).map λl=>((k:Int)+i)::l).map ints)]) ?_ (λj hj=>?_) ?_
   .simp
   .have Fv:=br hj (by omega);have jL:=hXe X[j] (cY hj);have wk:X.take (j+1)=X.take j++[X[j]]:=by simp
    simp[afj,Mw,hj,Fv];refine⟨by omega,by omega,?_⟩;rw[List.take_add_one,cV,bE hj];rfl
   .simp[afj,Mw];omega
  .have ah:¬((k:Int)+(5-k:Nat)<5):=by omega
   simp[afk,Mx,ah];rw[hF]
def M9 (c:Case)(k at_ n:Int):Case:={c with file:=qa c.file (fx k at_ n)}
def td (c:Case)(k:Int):Int:=if k=3\/k=4 then max 0 c.holder else c.sign
def auz (c:Case)(k:Int):au T 61 [cq c,.int k] (.int (td c k)):=by
 refine zyv 50 au2 ?_;unfold td;by_cases h1:k=3<;>by_cases h2:k=4<;>simp[U9,h1,h2]
 all_goals
  split
  .rw[Int.max_eq_right (by omega)]
  .rw[Int.max_eq_left (by omega)]
def qp (n:Nat)(v:Int)(i:Nat):Int:=cJ .and .i64 (cJ .shr .i64 v ((n:Int)-1-i)) 1
def jW (c:Case)(l:List Int)(v:Int):Nat->Case
 |0=>c
 |i+1=>M9 (jW c l v i) (l.getD i 0) (td c (l.getD i 0)) (qp l.length v i)
def oT (c:Case)(l:List Int)(v:Int):Case:=jW c l v l.length
def axD {l:List Fact}(h:l.Pairwise ct)(x:Fact):(my l x).Pairwise ct:=by
 unfold my;rw[kD,HX];refine⟨h.filter _,?_,λa ha b hb=>?_⟩
 .rw[List.singleton_append,xF];exact⟨λb hb=>(qA x b).1 (eW.1 hb).2,h.filter _⟩
 .have h1:=(FI x a).1 (eW.1 ha).2;rcases dm.1 hb with hb|hb
  .rw[oZ.1 hb];exact h1
  .exact H8 h1 ((qA x b).1 (eW.1 hb).2)
structure SortF (f:File) (n:Nat):Prop where
 sorted:f.facts.Pairwise ct
 len:f.facts.length<=n
def SortF.set {f:File}{n:Nat}(h:SortF f n)(x:Fact):SortF (qa f x) (n+1):=
 ⟨axD h.sorted x,cn (axC f.facts x) (Nat.succ_le_succ h.len)⟩
def Nb {c:Case}{n:Nat}(h:SortF c.file n)(l:List Int)(v:Int):∀i,SortF (jW c l v i).file (n+i)
 |0=>h
 |i+1=>(Nb h l v i).set _
def Na (c:Case)(l:List Int)(v:Int):∀i,(jW c l v i).sign=c.sign/\(jW c l v i).holder=c.holder/\(jW c l v i).defence=c.defence/\(jW c l v i).due=c.due/\(jW c l v i).day=c.day/\
 (jW c l v i).file.bill=c.file.bill/\(jW c l v i).file.signs=c.file.signs/\(jW c l v i).file.alters=c.file.alters/\(jW c l v i).file.acts=c.file.acts
 |0=>⟨rfl,rfl,rfl,rfl,rfl,rfl,rfl,rfl,rfl⟩
 |i+1=>Na c l v i
def aul (c:Case)(l:List Int)(v:Int)(hl:l.length<=60)(hs:SortF c.file 1000):au T 28 [cq c,ints l,.int v] (cq (oT c l v)):=by
 refine zyv 49 au1 ?_;simp[U8];refine aP.forRounds l.length (λi=>[.int i]) (λi=>[cq (jW c l v i)]) ?_ (λi hi=>?_) ?_
 .simp[jW]
 .have hw:=br hi (by omega);have eN:i64.wrap ((l.length:Int)-1)=(l.length:Int)-1:=bu (by omega);have fL:i64.wrap ((l.length:Int)-1-i)=(l.length:Int)-1-i:=bu (by omega);have lz:=UN (Nb hs l v i).sorted (cn (Nb hs l v i).len (by omega)) (l.getD i 0) (td c (l.getD i 0)) (qp l.length v i);have bU:=auz (jW c l v i) (l.getD i 0);have Rh:td (jW c l v i) (l.getD i 0)=td c (l.getD i 0):=by unfold td;rw[(Na c l v i).1,(Na c l v i).2.1]
  rw[Rh] at bU;have hg:l.getD i 0=l[i]:=by simp[hi]
  have hN:jW c l v (i+1)=M9 (jW c l v i) l[i] (td c l[i]) (qp l.length v i):=by rw[<-hg];rfl
  rw[hg] at lz bU;simp[afl,My,hi,hw,eN,fL];refine⟨_,bU,by omega,_,lz,?_⟩;rw[hN];rfl
 .simp[afl,My];rfl
def kX:List (List Int×Int):=(List.range 5).flatMap λs=>(gA (s+1) 0).flatMap λl=>(List.range (2^(s+1))).map λ(v:Nat)=>(l,(v:Int))
def je (r:Realm)(a b q:Int)(c:Case)(x:List Int×Int):Bool:=decide (ln r a b q (oT c x.1 x.2)≠2)&&decide (ln r a b q (oT c x.1 x.2)≠ln r a b q c)
def iK (x:List Int×Int):List Int:=(List.range x.1.length).map λi=>qp x.1.length x.2 i
def rR (c:Case):Bool:=decide (0<=c.sign/\c.sign<c.file.signs.length/\-1<=c.holder/\c.holder<c.file.signs.length)
def tj (r:Realm)(a b q:Int)(c:Case):List Int×List Int×Bool:=
 if rR c=true then match kX.find? (je r a b q c) with|some x=>(x.1,iK x,true)|none=>([],[],false) else([],[],false)
def xW (x:List Int×List Int×Bool):D:=.tup [ints x.1,ints x.2.1,.bool x.2.2]
def PG {α β:Type}{f:α->List β}{p:β->Bool}{l:List α}:(l.flatMap f).find? p=none↔∀a∈l,(f a).find? p=none:=by
 simp only[qk,iM];constructor
 .intro h a ha b hb;exact h b ⟨a,ha,hb⟩
 .rintro h b ⟨a,ha,hb⟩;exact h a ha b hb
def Zg {α β:Type}{f:α->List β}{p:β->Bool}{l:List α}{k:Nat}(hk:k<l.length)(h1:∀j (hj:j<k),(f (l[j]'(by omega))).find? p=none){x:β}(h2:(f l[k]).find? p=some x):(l.flatMap f).find? p=some x:=by
 have e:l=l.take k++(l[k]::l.drop (k+1)):=by rw[<-XF hk,vq]
 rw[e,XJ,XI,PG.2,Option.none_or,tA,XI,h2]
 .rfl
 .intro a ha;obtain⟨j,hj,rfl⟩:=gn ha;have bh:j<k:=by rw[dv] at hj;omega
  rw[HT];exact h1 j bh
def zX (s:Nat)(l:List Int):List (List Int×Int):=(List.range (2^(s+1))).map λ(v:Nat)=>(l,(v:Int))
def axu (s:Nat)(l:List Int)(v:Int)(hl:l.length=s+1)(hs:s<5)(O:Env)(mG:O.r 15=.int (s+1))(se:O.r 18=.int v)(ZI:O.r 84=.int l.length)(h85:O.r 85=.int 0)(kK:O.r 11=.none)(iT:O.o 11=.list [])
 {Q:Out->Prop} (hn:∀O',O'.r 17=O.r 17->O'.o 11=ints (iK (l,v))->Q (.next O')):aP T (ab1 po) O Q:=by
 have eN:i64.wrap ((s:Int)+1-1)=s:=by rw[bu (by omega)];omega
 refine aP.forRounds l.length (λi=>[.none,.int i]) (λi=>[ints ((List.range i).map λi=>qp l.length v i)]) ?_ (λi hi=>?_) ?_
 .simp[kK,h85,iT];rfl
 .have hw:=br hi (by omega);have fL:i64.wrap ((s:Int)-i)=s-i:=bu (by omega);have hb:qp l.length v i=cJ .and .i64 (cJ .shr .i64 v ((s:Int)-i)) 1:=by unfold qp;rw[hl];congr 3;omega
  have hR:(List.range (i+1)).map (λi=>qp l.length v i)=(List.range i).map (λi=>qp l.length v i)++[qp l.length v i]:=by rw[N1,mB];rfl
  have nC:i64.wrap (s:Int)=s:=bu (by omega);simp[afi,Mv,mG,se,ZI,hi,hw,eN,nC,fL];rw[hR,hb];refine⟨by omega,by omega,?_⟩;simp[ints]
 .simp[afi,Mv,ZI];refine hn _ ?_ ?_
  .simp
  .simp;rfl
def Yh (r:Realm)(hr:Right r)(a b q:Int)(c:Case)(qD:SortF c.file 900)(ym:∀l v,l.length<=60->FewS (oT c l v).file)(s:Nat)(l:List Int)(hl:l.length=s+1)(hs:s<5)(O:Env)
 (h1:O.r 1=.int a) (h2:O.r 2=.int b) (h3:O.r 3=.int q) (j9:O.r 10=.list []) (kK:O.r 11=.none) (sd:O.r 12=.bool false) (ua:O.r 14=.int (ln r a b q c)) (mG:O.r 15=.int (s+1)) (ub:O.r 17=ints l)
 (PZ:O.r 63=.int ((2^(s+1):Nat):Int)) (P0:O.r 64=.int 0) (o5:O.o 5=bB r) (o9:O.o 9=cq c) (iT:O.o 11=.list []) {Q:Out->Prop}
 (hn:(zX s l).find? (je r a b q c)=none->∀O',O'.r 10=.list []->O'.r 11=.none->O'.r 12=.bool false->O'.o 11=.list []->Q (.next O'))
 (hy:∀x,(zX s l).find? (je r a b q c)=some x->Q (.ret (xW (x.1,iK x,true)))):aP T (ab2 po) O Q:=by
 have hp:2^(s+1)<=32:=cn (XS (by omega) (show s+1<=5 by omega)) (by decide);generalize hN:2^(s+1)=N at*;have jJ:zX s l=(List.range N).map λ(v:Nat)=>(l,(v:Int)):=by unfold zX;rw[hN]
 rw[jJ] at hn hy;have hdK:∀v:Nat,au T 13 [bB r,.int a,.int b,.int q,cq (oT c l v)] (.int (ln r a b q (oT c l v))):=λv=>HI r hr a b q _ (ym l v (by omega));have hsK:∀v:Nat,au T 28 [cq c,ints l,.int v] (cq (oT c l v)):=λv=>aul c l v (by omega) ⟨qD.sorted,cn qD.len (by omega)⟩;refine aP.scan N (λv=>je r a b q c (l,(v:Int))=false) (λv=>[.list [],.none,.bool false,.int v]) (λ_=>[.list []]) ?_ (λv hv hj ho=>?_) (λv hv hj ho=>?_) (λhj=>?_)
 .simp[j9,kK,sd,P0,iT]
 .have hw:=br hv (by omega);simp[TL,Gj,h1,h2,h3,ua,mG,ub,PZ,o5,o9,hv,hw];refine⟨_,hsK v,_,hdK v,?_⟩;intro u1 u2;have e:je r a b q c (l,(v:Int))=true:=by
   unfold je;rw[aq,decide_eq_true_eq,decide_eq_true_eq];exact⟨u1,u2⟩
  rw[e] at ho;cases ho
 .have hw:=br hv (by omega);have eC:je r a b q c (l,(v:Int))=true:=by simpa using ho
  have jh:=eC;unfold je at jh;rw[aq,decide_eq_true_eq,decide_eq_true_eq] at jh;simp[TL,Gj,h1,h2,h3,ua,mG,ub,PZ,o5,o9,hv,hw];refine⟨_,hsK v,_,hdK v,?_⟩;refine⟨jh,axu s l v hl hs _ ?_ ?_ ?_ ?_ ?_ ?_ λO' e1 e2=>?_⟩
  .simp[mG]
  .simp
  .simp[ub]
  .simp
  .simp
  .simp
  .show Q _;rw[e1,e2];simp[ub];refine hy (l,(v:Int)) ?_;have hk:v<((List.range N).map λ(v:Nat)=>(l,(v:Int))).length:=by simpa using hv
   have:=ya (p:=je r a b q c) hk (by simpa using eC) (λj bh=>by simpa using hj j bh);simpa using this
 .simp[TL,Gj,PZ];refine hn ?_ _ ?_ ?_ ?_ ?_
  .rw[qk];intro x hx;obtain⟨v,hv,rfl⟩:=dX.1 hx;rw[hj v (cm.1 hv)];decide
  all_goals simp
def yX (s:Nat):List (List Int×Int):=(gA (s+1) 0).flatMap (zX s)
def abN (r:Realm)(hr:Right r)(a b q:Int)(c:Case)(qD:SortF c.file 900)(ym:∀l v,l.length<=60->FewS (oT c l v).file)(s:Nat)(hs:s<5)(O:Env)
 (h1:O.r 1=.int a) (h2:O.r 2=.int b) (h3:O.r 3=.int q) (j9:O.r 10=.list []) (kK:O.r 11=.none) (sd:O.r 12=.bool false) (ua:O.r 14=.int (ln r a b q c)) (mG:O.r 15=.int (s+1)) (Ke:O.r 56=.list ((gA (s+1) 0).map ints))
 (Eo:O.r 57=.int (gA (s+1) 0).length) (h58:O.r 58=.int 0) (o5:O.o 5=bB r) (o9:O.o 9=cq c) (iT:O.o 11=.list []) {Q:Out->Prop}
 (hn:(yX s).find? (je r a b q c)=none->∀O',O'.r 10=.list []->O'.r 11=.none->O'.r 12=.bool false->O'.o 11=.list []->Q (.next O'))
 (hy:∀x,(yX s).find? (je r a b q c)=some x->Q (.ret (xW (x.1,iK x,true)))):aP T (ab3 po) O Q:=by
 have qK:=Lo (s+1) 0;have hle:=FF (s+1) 0;have h5:5^(s+1)<=3125:=cn (XS (by omega) (show s+1<=5 by omega)) (by decide);unfold yX at hn hy;generalize gA (s+1) 0=X at*;have ff:cJ .shl .i64 1 ((s:Int)+1)=((2^(s+1):Nat):Int):=by
  have:s=0\/s=1\/s=2\/s=3\/s=4:=by omega
  rcases this with rfl|rfl|rfl|rfl|rfl<;>rfl
 refine aP.scan X.length (λk=>(zX s (X.getD k [])).find? (je r a b q c)=none) (λk=>[.list [],.none,.bool false,.int k]) (λ_=>[.list []]) ?_ (λk hk hj ho=>?_) (λk hk hj ho=>?_) (λhj=>?_)
 .simp[j9,kK,sd,h58,iT]
 .have hw:=br hk (by omega);have hg:X.getD k []=X[k]:=by simp[hk]
  rw[hg] at ho;have v9:(0:Int)<=(s:Int)+1:=by omega
  simp[TM,Gk,h1,h2,h3,ua,mG,Ke,Eo,o5,o9,hk,hw,ff,v9];refine Yh r hr a b q c qD ym s X[k] (hle _ (cY hk)) hs _ ?_ ?_ ?_ ?_ ?_ ?_ ?_ ?_ ?_ ?_ ?_ ?_ ?_ ?_ (λ_ O' e1 e2 e3 e4=>?_) (λx hx=>?_)
  case refine_15=>simp[e1,e2,e3,e4,hw]
  case refine_16=>rw[ho] at hx;cases hx
  all_goals simp[h1,h2,h3,ua,mG,Ke,Eo,o5,o9,hk,ff]
 .have hw:=br hk (by omega);have hg:X.getD k []=X[k]:=by simp[hk]
  rw[hg] at ho;have v9:(0:Int)<=(s:Int)+1:=by omega
  simp[TM,Gk,h1,h2,h3,ua,mG,Ke,Eo,o5,o9,hk,hw,ff,v9];refine Yh r hr a b q c qD ym s X[k] (hle _ (cY hk)) hs _ ?_ ?_ ?_ ?_ ?_ ?_ ?_ ?_ ?_ ?_ ?_ ?_ ?_ ?_ (λhx O' e1 e2 e3 e4=>absurd hx ho) (λx hx=>?_)
  case refine_15=>
   show Q _;exact hy x (Zg hk (λj bh=>by have:=hj j bh;simpa [show j<X.length by omega] using this) hx)
  all_goals simp[h1,h2,h3,ua,mG,Ke,Eo,o5,o9,hk,ff]
 .simp[TM,Gk,Eo];refine hn (PG.2 λl hl=>?_) _ ?_ ?_ ?_ ?_
  .obtain⟨j,bh,rfl⟩:=gn hl;have:=hj j bh;simpa [bh] using this
  all_goals simp
def XZ (r:Realm)(hr:Right r)(a b q:Int)(c:Case)(hf:FewS c.file)(hl:c.file.facts.length<=900)(hs:c.file.facts.Pairwise ct):au T 10 [bB r,.int a,.int b,.int q,cq c] (xW (tj r a b q c)):=by
 have BP:SortF c.file 900:=⟨hs,hl⟩
 have ym:∀l v,l.length<=60->FewS (oT c l v).file:=λl v hl=>by
  have h:=Na c l v l.length;exact⟨by rw[show(oT c l v).file.signs=_ from h.2.2.2.2.2.2.1];exact hf.1,by rw[show(oT c l v).file.alters=_ from h.2.2.2.2.2.2.2.1];exact hf.2,by rw[show(oT c l v).file.acts=_ from h.2.2.2.2.2.2.2.2];exact hf.3,cn (Nb BP l v l.length).len (by omega)⟩
 refine zyv 4 au0 ?_;unfold tj;by_cases hc:rR c=true
 case neg=>
  rw[if_neg hc];simp[rR] at hc;simp[Nt];rw[if_pos (by omega)];rfl
 rw[if_pos hc];simp[rR] at hc;simp[Nt];rw[if_neg (by omega)];refine⟨_,HI r hr a b q c hf,?_⟩;have hT:kX=(List.range 5).flatMap yX:=rfl;rw[hT];generalize hF:((List.range 5).flatMap yX).find? (je r a b q c)=F;refine aP.scan 5 (λs=>(yX s).find? (je r a b q c)=none) (λs=>[.list [],.none,.bool false,.int ((s:Int)+1)]) (λ_=>[.list []]) ?_ (λs hs hj ho=>?_) (λs hs hj ho=>?_) (λhj=>?_)
 .simp
 .have hw:i64.wrap ((s:Int)+1+1)=(s:Int)+1+1:=bu (by omega);have ah:(s:Int)+1<=5:=by omega
  have hL:=RR (s+1) (by omega) 0 (by omega);simp[TN,Gl,ah,hw];refine⟨_,hL,?_⟩;refine abN r hr a b q c BP ym s hs _ ?_ ?_ ?_ ?_ ?_ ?_ ?_ ?_ ?_ ?_ ?_ ?_ ?_ ?_ (λ_ O' e1 e2 e3 e4=>?_) (λx hx=>?_)
  case refine_15=>simp[e1,e2,e3,e4,hw]
  case refine_16=>rw[ho] at hx;cases hx
  all_goals simp
 .have hw:i64.wrap ((s:Int)+1+1)=(s:Int)+1+1:=bu (by omega);have ah:(s:Int)+1<=5:=by omega
  have hL:=RR (s+1) (by omega) 0 (by omega);simp[TN,Gl,ah,hw];refine⟨_,hL,?_⟩;refine abN r hr a b q c BP ym s hs _ ?_ ?_ ?_ ?_ ?_ ?_ ?_ ?_ ?_ ?_ ?_ ?_ ?_ ?_ (λhx O' e1 e2 e3 e4=>absurd hx ho) (λx hx=>?_)
  case refine_15=>
   have:=Zg (f:=yX) (l:=List.range 5) (p:=je r a b q c) (k:=s) (by simpa using hs) (λj bh=>by simpa using hj j bh) (by simpa using hx);rw[this] at hF;subst hF;rfl
  all_goals simp
 .simp[TN,Gl];rw[PG.2 λs hs=>hj s (cm.1 hs)] at hF;subst hF;rfl
def H5 (l m:List Int)(hl:l.length<=1000000):au T 12 [ints l,ints m] (.bool (decide (l=m))):=by
 refine zyv 51 avs ?_;simp[Vx];by_cases hlen:l.length=m.length
 case neg=>
  have:l≠m:=λe=>hlen (by rw[e]);have h':¬((l.length:Int)=m.length):=by omega
  simp[this,h']
 have h':(l.length:Int)=m.length:=by omega
 simp[h'];refine aP.scan l.length (λk=>l.getD k 0=m.getD k 0) (λk=>[.bool false,.int k]) (λ_=>[]) ?_ (λk hk hj ho=>?_) (λk hk hj ho=>?_) (λhj=>?_)
 .simp
 .have hw:=br hk (by omega);have bN:k<m.length:=by omega
  simp[hk,bN] at ho;simp[TU,Gr,hk,bN,hw,ho,<-h']
 .have bN:k<m.length:=by omega
  simp[hk,bN] at ho;have:l≠m:=λe=>ho (by subst e;rfl);simp[TU,Gr,hk,bN,ho,this,<-h']
 .have:l=m:=by
   apply HO hlen;intro k h1 h2;have:=hj k h1;simpa [h1,h2] using this
  simp[TU,Gr,this]
def ahI (d:D):Prop:=∃b:Bool,d=.bool b
def akz (f:File):∃b:Bool,au T 26 [cr f] (.bool b):=by
 have h:∃d,au T 26 [cr f] d/\ahI d:=by
  refine au.ex_of_tree rfl aik avx ?_;simp[VB];split
  .exact⟨_,rfl⟩
  .exact⟨_,rfl⟩
 obtain⟨d,hd,b,rfl⟩:=h;exact⟨b,hd⟩
structure Fine (r:Realm) (c:Case):Prop where
 good:Good r c.file
 check:ic r=0
 paper:PaperOK r c.file
def Fine.facts {r:Realm}{c:Case}(h:Fine r c):c.file.facts.Pairwise ct:=((akx c.file).1 h.paper.facts).sorted
def Fine.len {r:Realm}{c:Case}(h:Fine r c):c.file.facts.length<=900:=by have:=h.paper.full;omega
def Fine.turn {r:Realm}{c:Case}(h:Fine r c)(a b q:Int):au T 10 [bB r,.int a,.int b,.int q,cq c] (xW (tj r a b q c)):=XZ r h.good.right a b q c h.good.few h.len h.facts
def Fine.differ {r:Realm}{c:Case}(h:Fine r c)(a b q:Int):au T 13 [bB r,.int a,.int b,.int q,cq c] (.int (ln r a b q c)):=HI r h.good.right a b q c h.good.few
def akE (r:Realm)(hr:r.OK)(c:Case)(hc:c.file.OK):∃b:Bool,au T 9 [bB r,cq c] (.bool b)/\(b=true->Fine r c):=by
 have h:∃d,au T 9 [bB r,cq c] d/\∃b:Bool,d=.bool b/\(b=true->Fine r c):=by
  refine au.ex_of_tree rfl aii avc ?_;simp[Vi];refine⟨_,as4 r c.file hr,?_⟩;cases e1:tX r c.file
  .simp
  have hs:Small r:=PD hr (by simp only[tX,aq] at e1;exact e1.1.1);simp;refine⟨_,afJ r hs,?_⟩;by_cases e2:ic r=0
  case neg=>simp[e2]
  simp[e2];obtain⟨b,hb⟩:=akz c.file;refine⟨_,hb,?_⟩;cases b
  .simp
  obtain⟨d,hd,e,rfl,he⟩:=asj r hs c.file hc;simp;refine⟨_,hd,?_⟩;by_cases e0:e=0
  case neg=>simp[e0]
  simp[e0];have hg:J7 r c.file=true:=by unfold J7;simp[e1,e2]
  exact⟨alZ hr hg,e2,he.1 e0⟩
 obtain⟨d,h1,b,rfl,h2⟩:=h;exact⟨b,h1,h2⟩
def xu:Realm:=⟨[⟨#[102,114,97,110,99]⟩],[⟨⟨#[76,121,111,110]⟩,0,0,[],[],[]⟩],[⟨0⟩],[⟨⟨#[65]⟩,0,0⟩,⟨⟨#[66]⟩,0,0⟩],
 [⟨⟨#[103,101,110,101,118,97]⟩,false,[],[⟨2,.mk 2 15 []⟩]⟩,⟨⟨#[108,111,110,100,111,110]⟩,false,[],[⟨2,.mk 5 0 [.mk 2 15 [],.mk 2 17 []]⟩]⟩],[],[],[]⟩
def Hw (l:List Fact):File:=⟨⟨0,1,1,100,0,⟨0,0,0⟩,10,0,0,-1,0,0,1⟩,[⟨0,0,0,-1,-1,0,10,0,0⟩],[],[],l⟩
def Db (l:List Fact):Case:=⟨Hw l,0,-1,-1,-1,20⟩
set_option maxRecDepth 10000 in
def ahp (l:List Fact):au T 23 [facts l] (.tup [bB xu,cq (Db l)]):=by
 refine zyv 3 avb ?_;simp[Vh];refine⟨?_,?_⟩
 .kernel_rfl
 .first|rfl|kernel_rfl
def ahq:Right xu:=by
 refine⟨?_,by decide,?_⟩
 .intro o ho;simp[xu] at ho;rcases ho with rfl|rfl
  .exact⟨by decide,λch h=>by simp at h⟩
  .exact⟨by decide,λch h=>by simp at h⟩
 .have t0:∀n:Int,(0<=n/\n<=100)->Tm.OK (.mk 2 n []):=λn h=>Tm.OK.mk 2 n [] (by unfold aX;omega) (by unfold aX;omega) (by decide) (λt h=>by cases h);intro o ho;simp[xu] at ho;rcases ho with rfl|rfl
  .refine⟨⟨⟨by decide,λch h=>by simp at h⟩,by decide,?_⟩,by decide⟩;intro x hx;simp at hx;subst hx;exact⟨by unfold aX;decide,t0 15 (by omega)⟩
  .refine⟨⟨⟨by decide,λch h=>by simp at h⟩,by decide,?_⟩,by decide⟩;intro x hx;simp at hx;subst hx;refine⟨by unfold aX;decide,Tm.OK.mk 5 0 _ (by unfold aX;decide) (by unfold aX;decide) (by decide) (λt h=>?_)⟩;simp at h;rcases h with rfl|rfl
   .exact t0 15 (by omega)
   .exact t0 17 (by omega)
def UL (l:List Fact)(d:Int)(k v:List Int)(hl:l.length<=10)(hs:l.Pairwise ct)(ht:tj xu 0 1 2 (Db l)=(k,v,true))(hd:ln xu 0 1 2 (Db l)=d)(hk:k.length<=10)(hv:v.length<=10):
 au T 22 [facts l,.int d,ints k,ints v] (.bool true):=by
 have hf:FewS (Db l).file:=⟨by show 1<=1000;omega,by show 0<=1000;omega,by show 0<=1000;omega,by show l.length<=1000;omega⟩
 have h1:=XZ xu ahq 0 1 2 (Db l) hf (by show l.length<=900;omega) hs;have h2:=HI xu ahq 0 1 2 (Db l) hf;rw[ht] at h1;rw[hd] at h2;have h3:=H5 k k (by omega);have h4:=H5 v v (by omega);refine zyv 2 ave ?_;simp[Vk];refine⟨_,ahp l,?_⟩;simp[eh];refine⟨_,h1,?_⟩;simp[xW];refine⟨_,h2,?_⟩;simp;refine⟨_,h3,?_⟩;simpa using h4
set_option maxHeartbeats 2000000 in
def at7:au T 8 [] (.bool true):=by
 have s1:=UL [] 2 [0] [1] (by decide) (by decide) (by kernel_rfl) (by kernel_rfl) (by decide) (by decide);have s2:=UL [⟨0,0,1⟩] 0 [0,2] [0,1] (by decide) (by decide) (by kernel_rfl) (by kernel_rfl) (by decide) (by decide);have s3:=UL [⟨0,0,0⟩,⟨2,0,1⟩] 1 [0] [1] (by decide) (by decide) (by kernel_rfl) (by kernel_rfl) (by decide) (by decide);have s4:=UN (f:=Hw [⟨1,0,1⟩]) (by decide) (by decide) 0 0 7;rw[show qa (Hw [⟨1,0,1⟩]) (fx 0 0 7)=Hw [⟨0,0,1⟩,⟨1,0,1⟩] by kernel_rfl] at s4;refine zyv 1 avd ?_;simp[Vj];refine⟨_,s1,_,s2,_,s3,_,ahp [⟨1,0,1⟩],?_⟩;simp[eh];refine⟨_,s4,?_⟩;simp[eh,Hw]
def axb (r:Realm)(a b q:Int)(c:Case):(tj r a b q c).1.length<=1000/\(tj r a b q c).2.1.length<=1000:=by
 have key:∀x,x∈kX->x.1.length<=5:=λx hx=>by
  unfold kX at hx;obtain⟨s,hs,hx⟩:=iM.1 hx;obtain⟨l,hl,hx⟩:=iM.1 hx;obtain⟨v,_,rfl⟩:=dX.1 hx;have:=FF _ _ l hl;have:=cm.1 hs;show l.length<=5;omega
 unfold tj;split
 .cases h:kX.find? (je r a b q c) with
  |none=>simp
  |some x=>
   have:=key x (rI h);exact⟨by show x.1.length<=_;omega,by show(iK x).length<=_;unfold iK;simp;omega⟩
 .simp
def tg (c:Case)(k:Int):Int:=if k=0\/k=1\/k=2 then c.sign else if c.holder=-1 then 0 else c.holder
def as6 (c:Case)(k:Int):au T 41 [cq c,.int k] (.int (tg c k)):=by
 refine zyv 97 awg ?_;unfold tg;by_cases h0:k=0<;>by_cases h1:k=1<;>by_cases h2:k=2<;>by_cases h3:c.holder=-1<;>simp[V9,h0,h1,h2,h3]<;>omega
def auy {c:Case}(hh:-1<=c.holder){k:Int}(hk:0<=k/\k<5):tg c k=td c k:=by
 unfold tg td;by_cases h:k=3\/k=4
 .rw[if_pos h,if_neg (by omega)];split<;>omega
 .rw[if_neg h,if_pos (by omega)]
def lP (c:Case)(ks vs:List Int):Nat->Case
 |0=>c
 |i+1=>M9 (lP c ks vs i) (ks.getD i 0) (tg c (ks.getD i 0)) (vs.getD i 0)
def ve (c:Case)(ks vs:List Int):Case:=lP c ks vs (min ks.length vs.length)
def NJ {c:Case}{n:Nat}(h:SortF c.file n)(ks vs:List Int):∀i,SortF (lP c ks vs i).file (n+i)
 |0=>h
 |i+1=>(NJ h ks vs i).set _
def NI (c:Case)(ks vs:List Int):∀i,(lP c ks vs i).sign=c.sign/\(lP c ks vs i).holder=c.holder/\
 (lP c ks vs i).file.signs=c.file.signs/\(lP c ks vs i).file.alters=c.file.alters/\(lP c ks vs i).file.acts=c.file.acts
 |0=>⟨rfl,rfl,rfl,rfl,rfl⟩
 |i+1=>NI c ks vs i
def axE {c:Case}(hs:SortF c.file 900)(hf:FewS c.file)(ks vs:List Int)(hl:ks.length<=60):FewS (ve c ks vs).file:=by
 have h:=NI c ks vs (min ks.length vs.length);exact⟨by rw[show(ve c ks vs).file.signs=_ from h.2.2.1];exact hf.1,by rw[show(ve c ks vs).file.alters=_ from h.2.2.2.1];exact hf.2,by rw[show(ve c ks vs).file.acts=_ from h.2.2.2.2];exact hf.3,cn (NJ hs ks vs _).len (by omega)⟩
def dG:List Int->List Int->Bool->Bool
 |x::xs,y::ys,b=>if x=y then dG xs ys b else decide (x<y)
 |_,_,b=>b
def nr (k v k' v':List Int):Bool:=if k.length=k'.length then dG k k' (dG v v' false) else decide (k.length<k'.length)
def RO:∀{l m:List Int} {b:Bool} (i:Nat) (h1:i<l.length) (h2:i<m.length),(∀j (hj:j<i),l[j]'(by omega)=m[j]'(by omega))->l[i]≠m[i]->dG l m b=decide (l[i]<m[i])
 |x::l,y::m,b,0,h1,h2,hj,aB=>by
  unfold dG;simp at aB;rw[if_neg aB];rfl
 |x::l,y::m,b,i+1,h1,h2,hj,aB=>by
  have h0:=hj 0 (by omega);simp at h0;unfold dG;rw[if_pos h0];simp only[List.getElem_cons_succ] at aB ⊢;exact RO i (by simpa using h1) (by simpa using h2) (λj fq=>by have:=hj (j+1) (by omega);simpa using this) aB
def Ln:∀{l m:List Int} {b:Bool},(∀j (h1:j<l.length) (h2:j<m.length),l[j]=m[j])->dG l m b=b
 |[],_,b,_=>by unfold dG;rfl
 |_::_,[],b,_=>by unfold dG;rfl
 |x::l,y::m,b,h=>by
  have h0:=h 0 (by simp) (by simp);simp at h0;unfold dG;rw[if_pos h0];exact Ln λj h1 h2=>by have:=h (j+1) (by simp;omega) (by simp;omega);simpa using this
def ahv (k v k' v':List Int)(hk:k.length<=1000000)(hv:v.length<=1000000):au T 20 [ints k,ints v,ints k',ints v'] (.bool (nr k v k' v')):=by
 refine zyv 94 awc ?_;unfold nr;simp[V5];by_cases hl:k.length=k'.length
 case neg=>
  have fY:¬((k.length:Int)=k'.length):=by omega
  simp[hl,fY]
 have fY:(k.length:Int)=k'.length:=by omega
 simp[hl];refine aP.scan k.length (λj=>k.getD j 0=k'.getD j 0) (λj=>[.bool false,.int j]) (λ_=>[]) ?_ (λj hj hh ho=>?_) (λj hj hh ho=>?_) (λhh=>?_)
 .simp
 .have hw:=br hj (by omega);have ny:j<k'.length:=by omega
  simp[hj,ny] at ho;simp[T8,GD,hj,ny,hw,ho,hl]
 .have ny:j<k'.length:=by omega
  simp[hj,ny] at ho;have:=RO (b:=dG v v' false) j hj ny (λi hi=>by have:=hh i hi;simpa [show i<k.length by omega,show i<k'.length by omega] using this) ho;rw[this];simp[T8,GD,hj,ny,ho,hl]
 .have:=Ln (l:=k) (m:=k') (b:=dG v v' false) (λj h1 h2=>by have:=hh j h1;simpa [h1,h2] using this);rw[this];simp[T8,GD,hl];refine aP.scan (min v.length v'.length) (λj=>v.getD j 0=v'.getD j 0) (λj=>[.bool false,.int j]) (λ_=>[]) ?_ (λj hj hh ho=>?_) (λj hj hh ho=>?_) (λhh=>?_)
  .simp
  .have h1:j<v.length:=by omega
   have h2:j<v'.length:=by omega
   have hw:=br h1 (by omega);simp[h1,h2] at ho;simp[T9,GF,h1,h2,hw,ho]
  .have h1:j<v.length:=by omega
   have h2:j<v'.length:=by omega
   simp[h1,h2] at ho;have:=RO (b:=false) j h1 h2 (λi hi=>by have:=hh i hi;simpa [show i<v.length by omega,show i<v'.length by omega] using this) ho;rw[this];simp[T9,GF,h1,h2,ho]
  .have:=Ln (l:=v) (m:=v') (b:=false) (λj h1 h2=>by have:=hh j (by omega);simpa [h1,h2] using this);rw[this];simp[T9,GF];intro a b;omega
def lD (n:Nat):Nat->List Int×List Int
 |0=>([],[])
 |k+1=>if 0<n/3^k%3 then((lD n k).1++[(k:Int)],(lD n k).2++[((n/3^k%3:Nat):Int)-1]) else lD n k
def bR (n:Nat):List Int×List Int:=lD n 5
def RQ (n:Nat):∀k,(lD n k).1.length<=k/\(lD n k).2.length=(lD n k).1.length
 |0=>⟨by simp[lD],rfl⟩
 |k+1=>by
  have:=RQ n k;unfold lD;split
  .simp;omega
  .omega
def ahM (n:Nat)(hn:n<1000):au T 19 [.int n] (.tup [ints (bR n).1,ints (bR n).2]):=by
 refine zyv 93 awe ?_;simp[V7];refine aP.forRounds 5 (λk=>[.int ((n/3^k:Nat):Int),.none,.none,.int k]) (λk=>[ints (lD n k).2,ints (lD n k).1]) ?_ (λk hk=>?_) ?_
 .simp[lD];rfl
 .have hd:(n/3^k:Nat)<=n:=Nat.div_le_self _ _;have hw:=br hk (by omega);have ah:(k:Int)<5:=by omega
  have qK:=RQ n k;have e3:n/3^(k+1)=n/3^k/3:=by rw[Nat.pow_succ,Nat.div_div_eq_div_mul]
  have ar:∀m:Nat,m<=1000->cJ .rem .i64 (m:Int) 3=((m%3:Nat):Int)/\cJ .quo .i64 (m:Int) 3=((m/3:Nat):Int):=λm hm=>by
   unfold cJ;dsimp only;rw[Int.tmod_eq_emod_of_nonneg (by omega),ahH (by omega),bu (by omega)];omega
  have h1:=(ar (n/3^k) (by omega)).1;have h2:=(ar (n/3^k) (by omega)).2;rw[<-e3] at h2;clear ar;have hL:lD n (k+1)=if 0<n/3^k%3 then((lD n k).1++[(k:Int)],(lD n k).2++[((n/3^k%3:Nat):Int)-1]) else lD n k:=rfl;rw[hL];generalize n/3^(k+1)=m2 at*;generalize n/3^k=m at*;generalize lD n k=L at*;obtain⟨ks,vs⟩:=L;have aB3:ks.length<=k:=qK.1;have aB4:vs.length=ks.length:=qK.2;by_cases h:0<m%3
  .have h':(0:Int)<((m%3:Nat):Int):=by omega
   have fL:i64.wrap (((m%3:Nat):Int)-1)=((m%3:Nat):Int)-1:=bu (by omega);simp[Ua,GG,ah,hw,h1,h2,h,h',fL];have h3:(0:Int)<(m:Int)%3:=by omega
   have h4:i64.wrap ((m:Int)%3-1)=(m:Int)%3-1:=bu (by omega);rw[if_pos h3,h4];exact⟨by omega,by omega,by simp[ints],by simp[ints]⟩
  .have h':((m%3:Nat):Int)=0:=by omega
   have kJ:m%3=0:=by omega
   simp[Ua,GG,ah,hw,h1,h2,h,h',kJ]
 .simp[Ua,GG];exact⟨rfl,rfl⟩
def lex_trans:∀{x y z:List Int},dG x y false=true->dG y z false=true->dG x z false=true
 |[],_,_,h,_=>by unfold dG at h;cases h
 |_::_,[],_,h,_=>by unfold dG at h;cases h
 |_::_,_::_,[],_,h=>by unfold dG at h;cases h
 |a::x,b::y,c::z,h1,h2=>by
  unfold dG at h1 h2 ⊢;by_cases e1:a=b
  .subst e1;rw[if_pos rfl] at h1;by_cases e2:a=c
   .subst e2;rw[if_pos rfl] at h2 ⊢;exact lex_trans h1 h2
   .rw[if_neg e2] at h2 ⊢;exact h2
  .rw[if_neg e1] at h1;have h1:=of_decide_eq_true h1;by_cases e2:b=c
   .subst e2;rw[if_neg e1];exact decide_eq_true h1
   .rw[if_neg e2] at h2;have h2:=of_decide_eq_true h2;rw[if_neg (by omega)];exact decide_eq_true (by omega)
def lex_irrefl (x:List Int):dG x x false=false:=Ln λ_ _ _=>rfl
def abL:∀{k k' v v':List Int} {b:Bool},k.length=k'.length->dG (k++v) (k'++v') b=dG k k' (dG v v' b)
 |[],[],v,v',b,_=>by
  show dG v v' b=_
  conv=>rhs;unfold dG
 |[],_::_,_,_,_,h=>by simp at h
 |_::_,[],_,_,_,h=>by simp at h
 |x::k,y::k',v,v',b,h=>by
  show dG (x::(k++v)) (y::(k'++v')) b=_;unfold dG;split
  .exact abL (by simpa using h)
  .rfl
def Lj (k v:List Int):List Int:=(k.length:Int)::(k++v)
def O3 (k v k' v':List Int):nr k v k' v'=dG (Lj k v) (Lj k' v') false:=by
 unfold nr Lj;by_cases h:k.length=k'.length
 .rw[if_pos h]
  conv=>rhs;unfold dG
  rw[if_pos (by omega),abL h]
 .rw[if_neg h]
  conv=>rhs;unfold dG
  rw[if_neg (by omega)];apply decide_eq_decide.2;omega
def JN:List (List Int)->Bool
 |x::y::l=>dG x y false&&JN (y::l)
 |_=>true
def Yy:∀{l:List (List Int)},JN l=true->l.Pairwise λx y=>dG x y false=true
 |[],_=>.nil
 |[x],_=>by simp
 |x::y::l,h=>by
  simp only[JN,aq] at h;have ih:=Yy h.2;rw[xF];refine⟨λz hz=>?_,ih⟩;rcases cZ.1 hz with rfl|hz
  .exact h.1
  .exact lex_trans h.1 ((xF.1 ih).1 z hz)
def pR (x:List Int×Int):List Int:=Lj x.1 (iK x)
def aw9:JN (kX.map pR)=true:=by kernel_rfl
def agI:kX.Pairwise λx y=>dG (pR x) (pR y) false=true:=List.pairwise_map.1 (Yy aw9)
def akH {p:List Int×Int->Bool}{x0 x:List Int×Int}(h:kX.find? p=some x0)(hx:x∈kX)(hb:dG (pR x) (pR x0) false=true):p x=false:=by
 obtain⟨_,us,bs,e,ha⟩:=List.find?_eq_some_iff_append.1 h;have hs:=agI;rw[e] at hs hx;rcases dm.1 hx with hx|hx
 .simpa using ha x hx
 .rcases cZ.1 hx with rfl|hx
  .rw[lex_irrefl] at hb;cases hb
  .have:=(xF.1 (HX.1 hs).2.1).1 x hx;have:=lex_trans this hb;rw[lex_irrefl] at this;cases this
def O4:Nat->List (List Int)
 |0=>[[]]
 |s+1=>(O4 s).map (0::·)++(O4 s).map (1::·)
def Hr:List (List Int×List Int):=(List.range 5).flatMap λs=>(gA (s+1) 0).flatMap λl=>(O4 (s+1)).map λv=>(l,v)
def agH:kX.map (λx=>(x.1,iK x))=Hr:=by kernel_rfl
def apu:((List.range 243).all λn=>(bR n).1.isEmpty||Hr.contains (bR n))=true:=by kernel_rfl
def apw (n:Nat)(hn:n<243)(h:(bR n).1≠[]):∃x,x∈kX/\x.1=(bR n).1/\iK x=(bR n).2:=by
 have:=bJ.1 apu n (cm.2 hn);rw[fQ] at this;rcases this with h1|h1
 .exact absurd (tC.1 h1) h
 .have hm:bR n∈Hr:=by simpa using h1
  rw[<-agH] at hm;obtain⟨x,hx,e⟩:=dX.1 hm;exact⟨x,hx,by rw[<-e],by rw[<-e]⟩
def abO:∀(s k:Nat),∀l,l∈gA s k->∀x,x∈l->0<=x/\x<5
 |0,_,l,h,x,hx=>by simp[gA] at h;subst h;cases hx
 |s+1,k,l,h,x,hx=>by
  obtain⟨i,hi,h⟩:=iM.1 h;obtain⟨l',h',rfl⟩:=dX.1 h;have:=cm.1 hi;rcases cZ.1 hx with rfl|hx
  .omega
  .exact abO s _ l' h' x hx
def axa {x:List Int×Int}(hx:x∈kX):1<=x.1.length/\x.1.length<=5/\∀k,k∈x.1->0<=k/\k<5:=by
 unfold kX at hx;obtain⟨s,hs,hx⟩:=iM.1 hx;obtain⟨l,hl,hx⟩:=iM.1 hx;obtain⟨v,_,rfl⟩:=dX.1 hx;have h1:=FF _ _ l hl;have h2:=cm.1 hs;exact⟨by show 1<=l.length;omega,by show l.length<=5;omega,abO _ _ l hl⟩
def axF {c:Case}(hh:-1<=c.holder){x:List Int×Int}(hk:∀k,k∈x.1->0<=k/\k<5):ve c x.1 (iK x)=oT c x.1 x.2:=by
 obtain⟨l,v⟩:=x;have key:∀i,i<=l.length->lP c l (iK (l,v)) i=jW c l v i:=by
  intro i
  induction i with
  |zero=>intro _;rfl
  |succ i ih=>
   intro hi;have cN:i<l.length:=hi;have hg:l.getD i 0=l[i]:=by simp[show i<l.length by omega]
   have hv:(iK (l,v)).getD i 0=qp l.length v i:=by unfold iK;simp[show i<l.length by omega]
   unfold lP jW;rw[ih (by omega),hv,hg,auy hh (hk _ (cY cN))]
 have hm:min l.length (iK (l,v)).length=l.length:=by unfold iK;simp
 show lP c l (iK (l,v)) (min l.length (iK (l,v)).length)=_;rw[hm];exact key _ (aY _)
instance (a b:Int):Decidable (ago a b):=by unfold ago;infer_instance
def asN (f:File)(day:Int)(h1:f.signs.length<=4294967295)(h2:f.acts.length<=4294967295)(h3:f.alters.length<=4294967295)(h4:f.facts.length<=4294967295):au T 95 [cr f,.int day] (cr (gH f day)):=by
 refine zyv 104 avz ?_;simp[VD];obtain⟨m,hm,hS,Kk,vO⟩:=zB (λs:Sign=>decide (s.day<=day)) f.signs;obtain⟨n,hn,hA,P2,P3⟩:=zB (λs:Act=>decide (s.day<=day)) f.acts;refine aP.forRounds m (λk=>[.int k]) (λk=>[]) ?_ (λk hk=>?_) ?_
 .simp
 .have bM:k<f.signs.length:=by omega
  have hw:=br bM (by omega);have hd:=Kk k bM hk;simp at hd;have fI:¬day<f.signs[k].day:=by omega
  simp[TV,Gt,bM,hw,fI]
 have oC:(f.signs.take m).length=m:=by simp;omega
 have QQ:(f.acts.take n).length=n:=by simp;omega
 have P4:gH f day=⟨f.bill,f.signs.take m,f.alters.filter (j3 m),f.acts.take n,f.facts.filter (kH m)⟩:=by
  unfold gH Hs Xk;rw[hS,hA,oC]
 rw[P4];by_cases dM:m<f.signs.length
 case' pos=>
  have hd:=vO dM;simp at hd;simp[TV,Gt,dM,hd];generalize D.bool true=bb
 case' neg=>
  simp[TV,Gt,dM];generalize D.bool false=bb
 all_goals
  refine aP.forRounds n (λk=>[.int k]) (λk=>[]) ?_ (λk hk=>?_) ?_
  .simp
  .have bM:k<f.acts.length:=by omega
   have hw:=br bM (by omega);have hd:=P2 k bM hk;simp at hd;have fI:¬day<f.acts[k].day:=by omega
   simp[TW,Gu,bM,hw,fI]
  by_cases ir:n<f.acts.length
  case' pos=>
   have hd:=P3 ir;simp at hd;simp[TW,Gu,ir,hd];generalize D.bool true=bc
  case' neg=>
   simp[TW,Gu,ir];generalize D.bool false=bc
  all_goals
   refine⟨by omega,by omega,by omega,by omega,?_⟩;refine aP.forRounds f.alters.length (λk=>[.int k]) (λk=>[np f.bill (signs (f.signs.take m)) (mU ((f.alters.take k).filter (j3 m))) (acts (f.acts.take n)) (.list []),alters ((f.alters.take k).filter (j3 m))]) ?_ (λk hk=>?_) ?_
   .simp[alters,signs,acts,np]
    try rfl
   .have hw:=br hk (by omega);have ht:=Nn (j3 m) f.alters hk;rw[ht];have hlen:((f.alters.take k).filter (j3 m)).length<=k:=cn (Dj _ _) (by simp;omega);generalize (f.alters.take k).filter (j3 m)=B at*;by_cases hd:f.alters[k].at_<=(m:Int)
    .simp[TX,Gv,j3,hk,hw,hd];exact⟨by omega,by simp[alters,np,aaN]<;>rfl⟩
    .simp[TX,Gv,j3,hk,hw,hd]
   simp[TX,Gv];generalize f.alters.filter (j3 m)=B at*;refine aP.forRounds f.facts.length (λk=>[.int k]) (λk=>[np f.bill (signs (f.signs.take m)) (mU B) (acts (f.acts.take n)) (mU ((f.facts.take k).filter (kH m))),facts ((f.facts.take k).filter (kH m))]) ?_ (λk hk=>?_) ?_
   .simp[facts]
   .have hw:=br hk (by omega);have ht:=Nn (kH m) f.facts hk;rw[ht];have hlen:((f.facts.take k).filter (kH m)).length<=k:=cn (Dj _ _) (by simp;omega);generalize (f.facts.take k).filter (kH m)=C at*;by_cases bm:0<=f.facts[k].at_
    .by_cases dZ:f.facts[k].at_<(m:Int)
     .simp[MH,CN,kH,aJ,hk,hw,bm,dZ];exact⟨by omega,by simp[facts,np,aaN]<;>rfl⟩
     .simp[MH,CN,kH,aJ,hk,hw,bm,dZ]
    .simp[MH,CN,kH,aJ,hk,hw,bm]
   simp[MH,CN]
   try rfl
def arf (x i:Nat):x&&& 2^i=if x.testBit i then 2^i else 0:=by
 apply Nat.eq_of_testBit_eq;intro j;rw[Nat.testBit_and,Nat.testBit_two_pow];by_cases h:i=j
 .subst h;cases x.testBit i<;>simp
 .cases x.testBit i<;>simp[h]
def Oi (n:Int)(i:Nat)(hi:i<3):cJ .and .i64 n ((2^i:Nat):Int)=0\/cJ .and .i64 n ((2^i:Nat):Int)=((2^i:Nat):Int):=by
 have hp:i=0\/i=1\/i=2:=by omega
 have h2:(BitVec.ofInt 64 ((2^i:Nat):Int)).toNat=2^i:=by
  rcases hp with rfl|rfl|rfl<;>rfl
 have h1:(BitVec.ofInt 64 n&&& BitVec.ofInt 64 ((2^i:Nat):Int)).toNat=if(BitVec.ofInt 64 n).toNat.testBit i then 2^i else 0:=by
  rw[BitVec.toNat_and,h2,arf]
 have h3:cJ .and .i64 n ((2^i:Nat):Int)=i64.wrap (((BitVec.ofInt 64 n&&& BitVec.ofInt 64 ((2^i:Nat):Int)).toNat:Nat):Int):=rfl;rw[h3,h1];cases(BitVec.ofInt 64 n).toNat.testBit i with
 |false=>left;rfl
 |true=>
  right;rcases hp with rfl|rfl|rfl<;>rfl
def akK (n k:Int)(hk:k=1\/k=2\/k=4):decide (cJ .and .i64 n k=k)=vK n k:=by
 unfold vK;have h:cJ .and .i64 n k=0\/cJ .and .i64 n k=k:=by
  rcases hk with rfl|rfl|rfl
  .exact Oi n 0 (by omega)
  .exact Oi n 1 (by omega)
  .exact Oi n 2 (by omega)
 have vY:k≠0:=by omega
 rcases h with h|h<;>rw[h]<;>simp[vY];omega
def uW (n:Int):au T 117 [.int n] (cu ⟨true,n⟩):=by
 refine zyv 106 avF ?_;simp[VI]
 try rfl
def wU (b:Bool):au T 118 [.bool b] (cu (fD b)):=by
 refine zyv 107 avG ?_;cases b
 .simp[Nx];refine⟨_,uW 0,?_⟩;simp;rfl
 .simp[Nx];refine⟨_,uW 1,?_⟩;simp;rfl
def Ml (n k:Int)(hk:k=1\/k=2\/k=4):au T 119 [.int n,.int k] (.bool (vK n k)):=by
 rw[<-akK n k hk];refine zyv 108 avE ?_;simp[VH]
def Tt (r:Realm)(c:Int)(hl:r.cities.length<=100000):au T 87 [bB r,.int c] (.int (eG r c)):=by
 have hw:i64.wrap ((r.cities.length:Int)-1)=(r.cities.length:Int)-1:=bu (by omega);refine zyv 109 avv ?_;simp[Vz,eG,hw];refine⟨_,zk c 0 _,?_⟩;have he:wi c 0 ((r.cities.length:Int)-1)=aJ c r.cities.length:=by
  rw[HB];simp[wi,aJ];omega
 rw[he];cases h:aJ c r.cities.length
 .simp[h]
 .simp[aJ] at h;have h1:c.toNat<r.cities.length:=by omega
  simp[h,h1]
def agL (b:Nat->PC):PT:=
 (.call ⟨[],[(7,(.setn o7 (pi 18) 0 (.r 210)))]⟩ [] 215 120 [(ax 19 o5),(pi 4),bQ] (.chk (ak o7 (pi 19)) (.ret (.setn o7 (pi 19) 0 (.r 215)))))
variable(b:Nat->PC)
def agW:PT:=
 (.call ⟨[],[(7,(.setn o7 (pi 17) 0 (.r 205)))]⟩ [] 210 120 [(ax 19 o5),(pi 3),bQ] (.chk (ak o7 (pi 18)) (agL b)))
def ag4:PT:=
 (.call ⟨[],[(7,(.setn o7 (pi 16) 0 (.r 199)))]⟩ [] 205 120 [(ax 19 o5),(pi 2),(pc o3 19)] (.chk (ak o7 (pi 17)) (agW b)))
def ag5:PT:=
 (.call ⟨[],[(7,(.setn o7 (pi 15) 0 (.r 193)))]⟩ [] 199 120 [(ax 19 o5),(pi 1),(pc o3 19)] (.chk (ak o7 (pi 16)) (ag4 b)))
def ag6:PT:=
 (.call ⟨[(11,(.mx (pc o3 20) (pi 0)))],[(7,(.setn o7 (pi 13) 0 (.r 184)))]⟩ [] 193 120 [(ax 19 o5),(pi 0),(pc o3 19)] (.chk (ak o7 (pi 15)) (ag5 b)))
def ag7:PT:=
 (.call ⟨[],[]⟩ [] 184 118 [(.r 183)] (.chk (ak o7 (pi 13)) (ag6 b)))
def ag8:PT:=
 (.call ⟨[],[(7,(.setn o7 (pi 12) 0 (.r 178)))]⟩ [] 183 119 [(pc o6 8),(pi 1)] (ag7 b))
def ag9:PT:=
 (.call ⟨[],[]⟩ [] 178 118 [r9] (.chk (ak o7 (pi 12)) (ag8 b)))
def aha:PT:=
 (.call ⟨[],[]⟩ [] 155 118 [(aW (.r 148) (.r 153))] (.chk (ak o7 (pi 11)) (.brk ⟨[(10,(pi 0)),(9,pF)],[(7,(.setn o7 (pi 11) 0 (.r 155)))]⟩ (ab4 b) (ag9 b))))
def agM:PT:=
 (.call ⟨[],[]⟩ [] 153 87 [(ax 8 o2),(pc o5 10)] (aha b))
def agN:PT:=
 (.call ⟨[],[(7,(.setn o7 (pi 8) 0 (.r 141)))]⟩ [] 148 87 [(ax 8 o2),(pc o5 9)] (agM b))
def agO:PT:=
 (.call ⟨[],[(7,(.setn o7 (pi 9) 0 (.r 134)))]⟩ [] 141 118 [(af (pc o5 2) (pi (-1)))] (.chk (ak o7 (pi 8)) (agN b)))
def agP:PT:=
 (.call ⟨[],[]⟩ [] 134 118 [(.r 133)] (.chk (ak o7 (pi 9)) (agO b)))
def agQ:PT:=
 (.call ⟨[],[(7,(.setn o7 (pi 10) 0 Tv))]⟩ [] 133 119 [(pc o5 13),(pi 4)] (agP b))
def agR:PT:=
 (.call ⟨[],[]⟩ [] 127 118 [aeV] (.chk (ak o7 (pi 10)) (agQ b)))
def agS:PT:=
 (.call ⟨[],[(7,(.setn o7 (pi 7) 0 aeU))]⟩ [] 126 119 [(pc o5 13),(pi 2)] (agR b))
def agT:PT:=
 (.call ⟨[],[]⟩ [] 120 118 [aeT] (.chk (ak o7 (pi 7)) (agS b)))
def agU:PT:=
 (.call ⟨[],[(7,(.setn o7 (pi 14) 0 aeS))]⟩ [] 119 119 [(pc o5 13),(pi 1)] (agT b))
def agV:PT:=
 (.call ⟨[],[(7,(.setn o7 (pi 6) 0 Gb))]⟩ [] 113 118 [(bP r8 (pi 0))] (.chk (ak o7 (pi 14)) (agU b)))
def agX:PT:=
 (.call ⟨[(8,(.pick (aW (pc o3 22) (pi (-1))) (bx (pc o6 6) (pc o3 22)) (pi 0)))],[(7,(.setn o7 (pi 5) 0 TH))]⟩ [] 108 117 [(.pick (aW (pc o3 22) (pi (-1))) (bx (pc o6 6) (pc o3 22)) (pi 0))] (.chk (ak o7 (pi 6)) (agV b)))
def agY:PT:=
 (.call ⟨[],[(7,(.setn o7 (pi 4) 0 r91))]⟩ [] 96 117 [(pc o3 21)] (.chk (ak o7 (pi 5)) (agX b)))
def agZ:PT:=
 (.call ⟨[],[(7,(.setn o7 (pi 3) 0 r86))]⟩ [] 91 117 [(pc o6 0)] (.chk (ak o7 (pi 4)) (agY b)))
def ag0:PT:=
 (.call ⟨[],[(7,(.setn o7 (pi 2) 0 sS))]⟩ [] 86 117 [(pc o5 12)] (.chk (ak o7 (pi 3)) (agZ b)))
def ag1:PT:=
 (.call ⟨[],[(7,(.setn o7 (pi 1) 0 zq))]⟩ [] 80 117 [(pc o5 5)] (.chk (ak o7 (pi 2)) (ag0 b)))
def ag2:PT:=
 (.call ⟨[],[(7,(.setn o7 (pi 0) 0 sR))]⟩ [] 73 117 [(pc o5 14)] (.chk (ak o7 (pi 1)) (ag1 b)))
def ag3:PT:=
 (.call ⟨[],[(7,(.rep (pi 20) (.con (.agg [(.bool false),(.int 0)])))),(6,(.setc z9 0 (pn (pc (.setc (.con (.agg [(.int 0),(.int 0),(.int 0),(.int 0),(.int 0),(.int 0),(.int 0),(.int 0),(.int 0),(.int 0),(.int 0),(.int 0),(.int 0),(.int 0),(.int 0),(.list []),(.list []),(.list []),(.list [])])) 0 (ax 19 (.mk [r1]))) 15) (pc (.mk [r1]) 19)))),(5,(.setc (.con (.agg [(.int 0),(.int 0),(.int 0),(.int 0),(.int 0),(.int 0),(.int 0),(.int 0),(.int 0),(.int 0),(.int 0),(.int 0),(.int 0),(.int 0),(.int 0),(.list []),(.list []),(.list []),(.list [])])) 0 (ax 19 (.mk [r1])))),(3,(.mk [r1])),(2,(.mk [r0]))]⟩ [] 67 117 [(pc (.setc (.con (.agg [(.int 0),(.int 0),(.int 0),(.int 0),(.int 0),(.int 0),(.int 0),(.int 0),(.int 0),(.int 0),(.int 0),(.int 0),(.int 0),(.int 0),(.int 0),(.list []),(.list []),(.list []),(.list [])])) 0 (ax 19 (.mk [r1]))) 3)] (.chk (ak o7 (pi 0)) (ag2 b)))
def agK:PT:=
 (.ite (.pick (.pick (.pick (.pick (.pick (aj (pc (.mk [r1]) 19) (pi 0)) pT (cB (pc (.mk [r1]) 19) (.llen (pc (.setc (.con (.agg [(.int 0),(.int 0),(.int 0),(.int 0),(.int 0),(.int 0),(.int 0),(.int 0),(.int 0),(.int 0),(.int 0),(.int 0),(.int 0),(.int 0),(.int 0),(.list []),(.list []),(.list []),(.list [])])) 0 (ax 19 (.mk [r1]))) 15)))) pT (aj (pc (.mk [r1]) 20) (pi (-1)))) pT (cB (pc (.mk [r1]) 20) (.llen (pc (.setc (.con (.agg [(.int 0),(.int 0),(.int 0),(.int 0),(.int 0),(.int 0),(.int 0),(.int 0),(.int 0),(.int 0),(.int 0),(.int 0),(.int 0),(.int 0),(.int 0),(.list []),(.list []),(.list []),(.list [])])) 0 (ax 19 (.mk [r1]))) 15)))) pT (aj (pc (.mk [r1]) 22) (pi (-1)))) pT (bP (pc (.mk [r1]) 22) (pi 100000))) (.ret pL) (.chk (ak (pc (.setc (.con (.agg [(.int 0),(.int 0),(.int 0),(.int 0),(.int 0),(.int 0),(.int 0),(.int 0),(.int 0),(.int 0),(.int 0),(.int 0),(.int 0),(.int 0),(.int 0),(.list []),(.list []),(.list []),(.list [])])) 0 (ax 19 (.mk [r1]))) 15) (pc (.mk [r1]) 19)) (.ite (.pick (aj (pc (.setc z9 0 (pn (pc (.setc (.con (.agg [(.int 0),(.int 0),(.int 0),(.int 0),(.int 0),(.int 0),(.int 0),(.int 0),(.int 0),(.int 0),(.int 0),(.int 0),(.int 0),(.int 0),(.int 0),(.list []),(.list []),(.list []),(.list [])])) 0 (ax 19 (.mk [r1]))) 15) (pc (.mk [r1]) 19))) 6) (pi 0)) pT (bP (pc (.setc z9 0 (pn (pc (.setc (.con (.agg [(.int 0),(.int 0),(.int 0),(.int 0),(.int 0),(.int 0),(.int 0),(.int 0),(.int 0),(.int 0),(.int 0),(.int 0),(.int 0),(.int 0),(.int 0),(.list []),(.list []),(.list []),(.list [])])) 0 (ax 19 (.mk [r1]))) 15) (pc (.mk [r1]) 19))) 6) (pi 100000))) (.ret pL) (.chk (.an (cB (pi 20) (pi 0)) (bD (pi 20) (pi 4294967296))) (.chk (af (pi 20) (pi 20)) (ag3 b))))))
def avC (b:Nat->PC):VG b=agK b:=rfl
def asQ (r:Realm)(hr:r.cities.length<=100000)(c:Case)(h2:c.file.facts.length<=100000)(h3:c.file.alters.length<=100000):au T 96 [bB r,cq c] (cells (eR r c)):=by
 refine zyv 105 avD ?_;rw[avC];simp[agK];by_cases hb:((((c.sign<0\/(c.file.signs.length:Int)<=c.sign)\/c.holder< -1)\/(c.file.signs.length:Int)<=c.holder)\/c.due< -1)\/100000<c.due
 .rw[if_pos hb];have hc:oe c=false:=by
   cases e:oe c with
   |false=>rfl
   |true=>
    exfalso;unfold oe mT aJ at e;simp only[aq,fQ,decide_eq_true_eq] at e;split at e<;>omega
  have hv:eR r c=[]:=by unfold eR;rw[hc];simp
  rw[hv];rfl
 rw[if_neg hb];have hc:oe c=true:=by
  unfold oe mT aJ;simp only[aq,fQ,decide_eq_true_eq];split<;>omega
 have hlen:c.sign.toNat<c.file.signs.length:=by omega
 obtain⟨s,dE⟩:∃s:Sign,s=c.file.signs[c.sign.toNat]:=⟨_,rfl⟩
 have kj:c.file.signs.getD c.sign.toNat default=s:=by rw[dE];simp[hlen]
 have hv:eR r c=if aJ s.day 100001=true then Bj r c s else[]:=by
  unfold eR;rw[kj,hc];simp
 rw[hv];simp[hlen,<-dE];refine⟨by omega,?_⟩;by_cases hd:s.day<0\/100000<s.day
 .rw[if_pos hd,if_neg (by simp[aJ];omega)];rfl
 rw[if_neg hd,if_pos (by simp[aJ];omega)];have BC:(if c.due=-1 then D.int 0 else D.int (i64.wrap (s.day-c.due)))=D.int (wB s c.due):=by
  unfold wB;by_cases h:c.due=-1
  .simp[h]
  .rw[if_neg h,if_neg h,bu (by omega)]
 simp[ag3];refine⟨_,uW _,?_⟩;simp[ag2,hlen,<-dE];refine⟨_,uW _,?_⟩;simp[ag1,hlen,<-dE];refine⟨_,uW _,?_⟩;simp[ag0,hlen,<-dE];refine⟨_,uW _,?_⟩;simp[agZ,hlen,<-dE];refine⟨_,uW _,?_⟩;simp[agY,hlen,<-dE];refine⟨_,uW _,?_⟩;simp[agX,hlen,<-dE,BC];refine⟨_,uW _,?_⟩;simp[agV,hlen,<-dE,BC];refine⟨_,wU _,?_⟩;simp[agU,hlen,<-dE];refine⟨_,Ml _ _ (by omega),?_⟩;simp[agT,hlen,<-dE];refine⟨_,wU _,?_⟩;simp[agS,hlen,<-dE];refine⟨_,Ml _ _ (by omega),?_⟩;simp[agR,hlen,<-dE];refine⟨_,wU _,?_⟩;simp[agQ,hlen,<-dE];refine⟨_,Ml _ _ (by omega),?_⟩;simp[agP,hlen,<-dE];refine⟨_,wU _,?_⟩;simp[agO,hlen,<-dE];refine⟨_,wU _,?_⟩;simp[agN,hlen,<-dE];refine⟨_,Tt r _ hr,?_⟩;simp[agM,hlen,<-dE];refine⟨_,Tt r _ hr,?_⟩;simp[aha,hlen,<-dE];refine⟨_,wU _,?_⟩;refine aP.forRounds c.file.alters.length (λk=>[.bool ((List.range k).any λj=>decide ((c.file.alters.getD j default).at_<=c.sign)),.int k]) (λ_=>[]) ?_ (λk hk=>?_) ?_
 .simp
 .have hw:=br hk (by omega)
  have e:(List.range (k+1)).any (λj=>decide ((c.file.alters.getD j default).at_<=c.sign))=((List.range k).any (λj=>decide ((c.file.alters.getD j default).at_<=c.sign))||decide (c.file.alters[k].at_<=c.sign)):=by
   rw[N1,NP];simp[hk]
  rw[e];generalize (List.range k).any (λj=>decide ((c.file.alters.getD j default).at_<=c.sign))=b;cases b<;>simp[afu,MJ,hk,hw]
 have halt:(List.range c.file.alters.length).any (λj=>decide ((c.file.alters.getD j default).at_<=c.sign))=Oh c.file c.sign:=rfl;rw[halt];have hF:=λk at_=>asO c.file k at_ (by omega);have yp:(if c.holder<0 then D.int 0 else D.int c.holder)=D.int (mT c):=by unfold mT;split<;>rfl
 simp[afu,MJ];simp[ag9,hlen,<-dE];refine⟨_,wU _,?_⟩;simp[ag8,hlen,<-dE];refine⟨_,Ml _ _ (by omega),?_⟩;simp[ag7,hlen,<-dE];refine⟨_,wU _,?_⟩;simp[ag6,hlen,<-dE,yp];refine⟨_,hF 0 _,?_⟩;simp[ag5,hlen,<-dE,yp];refine⟨_,hF 1 _,?_⟩;simp[ag4,hlen,<-dE,yp];refine⟨_,hF 2 _,?_⟩;simp[agW,hlen,<-dE,yp];refine⟨_,hF 3 _,?_⟩;simp[agL,hlen,<-dE,yp];refine⟨_,hF 4 _,?_⟩;simp[cells,Bj,sW,sX]
def ae6 (r:Realm)(hr:r.cities.length<=100000)(c:Case)(hf:FewS c.file):au T 69 [bB r,cq c] (cells (eR r (bV c))):=by
 have g:=hf.at_ c.day;refine zyv 103 av7 ?_;simp[V1];refine⟨_,asN c.file c.day (by have:=hf.signs;omega) (by have:=hf.acts;omega) (by have:=hf.alters;omega) (by have:=hf.facts;omega),?_⟩;have hv:=asQ r hr (bV c) (by have:=g.facts;show(gH c.file c.day).facts.length<=_;omega) (by have:=g.alters;show(gH c.file c.day).alters.length<=_;omega);simp;exact hv
def ail (f:File)(day:Int){i:Nat}(hi:i<(gH f day).signs.length):∃h:i<f.signs.length,(gH f day).signs[i]=f.signs[i]:=by
 obtain⟨m,hm,e,_,_⟩:=zB (λs:Sign=>decide (s.day<=day)) f.signs;have e':(gH f day).signs=f.signs.take m:=e;have h1:i<f.signs.length:=by rw[e',dv] at hi;omega
 refine⟨h1,?_⟩;simp only[e',HT]
def ahb:PT:=
 (.call ⟨[],[(8,(.setn o8 (pi 3) 0 Ge))]⟩ [] 79 87 [(ax 8 o3),(pc (pn (pc o3 3) (pc o7 2)) 1)] (.chk (ak o8 (pi 4)) (.brk ⟨[(9,(pi 0))],[(8,(.setn o8 (pi 4) 0 r79))]⟩ (ab5 b) (.ret o8))))
def ahc:PT:=
 (.call ⟨[],[(8,(.setn o8 (pi 2) 0 uY))]⟩ [] 68 87 [(ax 8 o3),(pc o5 9)] (.chk (ak o8 (pi 3)) (.chk (ak (pc o3 3) (pc o7 2)) (ahb b))))
def ahd:PT:=
 (.call ⟨[],[(8,(.setn o8 (pi 1) 0 Gd))]⟩ [] 60 87 [(ax 8 o3),(pc o5 10)] (.chk (ak o8 (pi 2)) (ahc b)))
def ahe:PT:=
 (.call ⟨[(8,pN)],[(8,(.setn (.rep (pi 5) (pi 0)) (pi 0) 0 r1)),(7,(.setc z9 0 (pn (pc o5 15) (pc o5 19))))]⟩ [] 52 87 [(ax 8 o3),(pc (.setc z9 0 (pn (pc o5 15) (pc o5 19))) 7)] (.chk (ak o8 (pi 1)) (ahd b)))
def ahf:PT:=
 (.call ⟨[(6,pL)],[(5,(.mk [r2])),(3,(.mk [r0]))]⟩ [] 12 69 [(ax 8 (.mk [r0])),(ax 24 (.mk [r2]))] (.ite (.pick (.pick (af (.llen cP) (pi 0)) pT (aj r1 (pi 0))) pT (cB r1 (.llen (pc o3 4)))) (.ret pL) (.chk (ak (pc o5 15) (pc o5 19)) (.ite (.pick (aj (pc (.setc z9 0 (pn (pc o5 15) (pc o5 19))) 2) (pi 0)) pT (cB (pc (.setc z9 0 (pn (pc o5 15) (pc o5 19))) 2) (.llen (pc o3 3)))) (.ret pL) (.chk (.an (cB (pi 5) (pi 0)) (bD (pi 5) (pi 4294967296))) (.chk (af (pi 5) (pi 5)) (.chk (ak (.rep (pi 5) (pi 0)) (pi 0)) (ahe b))))))))
def av9 (b:Nat->PC):V3 b=ahf b:=rfl
def as5 (r:Realm)(hc:ic r=0)(hr:r.cities.length<=100000)(av:Int)(c:Case)(hf:FewS c.file):au T 65 [bB r,.int av,cq c] (ints (eP r av c)):=by
 have hC:=ae6 r hr c hf;refine zyv 102 awa ?_;rw[av9];simp[ahf];unfold eP;by_cases hv:eR r (bV c)=[]
 .rw[if_pos hv];rw[hv] at hC;refine⟨_,hC,?_⟩;simp;rfl
 rw[if_neg hv];refine⟨_,hC,?_⟩;have kj:=Xn hv;have K9:c.sign.toNat<(gH c.file c.day).signs.length:=by
  have:(bV c).file.signs=(gH c.file c.day).signs:=rfl;have e2:(bV c).sign=c.sign:=rfl;rw[this,e2] at kj;omega
 obtain⟨Fh,dE⟩:=ail c.file c.day K9;have h0:0<=c.sign:=kj.1;simp[hv];have hp:gP r av (bV c)=if lj r av (bV c) then[] else if hasB (fB r av (bV c)) (-1)=true then[] else fB r av (bV c):=rfl;have Kt:lj r av (bV c)↔((c.file.signs[c.sign.toNat].who<0\/(r.firms.length:Int)<=c.file.signs[c.sign.toNat].who)\/av<0)\/(r.orders.length:Int)<=av:=by
  have e:eg (bV c).file (bV c).sign=c.file.signs[c.sign.toNat]:=by
   show(gH c.file c.day).signs.getD c.sign.toNat default=_;rw[<-dE];simp[K9]
  unfold lj;rw[e];constructor
  .rintro(h|h|h|h)<;>simp[h]
  .rintro(((h|h)|h)|h)<;>simp[h]
 by_cases hfo:av<0\/(r.orders.length:Int)<=av
 .rw[if_pos hfo,hp,if_pos (Kt.2 (by omega))];rfl
 rw[if_neg hfo];obtain⟨sg,pM⟩:∃sg:Sign,sg=c.file.signs[c.sign.toNat]:=⟨_,rfl⟩
 rw[<-pM] at Kt;simp[Fh,<-pM];refine⟨by omega,?_⟩;by_cases hw:sg.who<0\/(r.firms.length:Int)<=sg.who
 .rw[if_pos hw,hp,if_pos (Kt.2 (.inl (.inl hw)))];rfl
 rw[if_neg hw];have dN:¬lj r av (bV c):=λe=>by have:=Kt.1 e;omega
 have yQ:sg.who.toNat<r.firms.length:=by omega
 have ho:fB r av (bV c)=[av,eG r sg.city,eG r c.file.bill.pay,eG r c.file.bill.city,eG r r.firms[sg.who.toNat].city]:=by
  have e:eg (bV c).file (bV c).sign=sg:=by
   show(gH c.file c.day).signs.getD c.sign.toNat default=_;rw[pM,<-dE];simp[K9]
  unfold fB;rw[e];simp[yQ];exact⟨rfl,rfl⟩
 rw[hp,if_neg dN,ho];have jq:∀x:Int,au T 87 [bB r,.int x] (.int (eG r x)):=λx=>Tt r x hr;simp[ahe,Fh,<-pM];refine⟨_,jq _,?_⟩;simp[ahd,Fh,<-pM];refine⟨_,jq _,?_⟩;simp[ahc,Fh,<-pM];refine⟨_,jq _,?_⟩;simp[ahb,Fh,<-pM,yQ];refine⟨by omega,_,jq _,?_⟩;have o1:=FU hc sg.city;have o2:=FU hc c.file.bill.pay;have o3:=FU hc c.file.bill.city;have o4:=FU hc r.firms[sg.who.toNat].city;generalize eG r sg.city=x1 at*;generalize eG r c.file.bill.pay=x2 at*;generalize eG r c.file.bill.city=x3 at*;generalize eG r r.firms[sg.who.toNat].city=x4 at*;have hR:∀x,(x=-1\/0<=x)->¬0<=x->x=-1:=λx h1 h2=>by omega
 have aB:¬av<0:=by omega
 obtain⟨R,Kj⟩:∃R,R=ints (if hasB [av,x1,x2,x3,x4] (-1)=true then[] else[av,x1,x2,x3,x4]):=⟨_,rfl⟩
 rw[<-Kj];have aoZ:(x1=-1\/x2=-1\/x3=-1\/x4=-1)->R=.list []:=by
  intro h;have:hasB [av,x1,x2,x3,x4] (-1)=true:=by
   simp[hasB];omega
  rw[Kj,this];rfl
 have eY:¬(x1=-1\/x2=-1\/x3=-1\/x4=-1)->R=ints [av,x1,x2,x3,x4]:=by
  intro h;have:hasB [av,x1,x2,x3,x4] (-1)=false:=by
   cases e:hasB [av,x1,x2,x3,x4] (-1) with
   |false=>rfl
   |true=>
    exfalso;simp[hasB] at e;omega
  rw[Kj,this];rfl
 clear Kj;refine aP.scan 5 (λk=>0<=[av,x1,x2,x3,x4].getD k 0) (λk=>[.list [],.int k]) (λ_=>[]) ?_ (λk hk hj ho=>?_) (λk hk hj ho=>?_) (λhj=>?_)
 .simp
 .have h5:k=0\/k=1\/k=2\/k=3\/k=4:=by omega
  rcases h5 with rfl|rfl|rfl|rfl|rfl<;>simp at ho<;>simp[T7,GC,Int.not_lt.2 ho,show i64.wrap 2=2 by decide,show i64.wrap 3=3 by decide,show i64.wrap 4=4 by decide,show i64.wrap 5=5 by decide,show i64.wrap 1=1 by decide]
 .have h5:k=0\/k=1\/k=2\/k=3\/k=4:=by omega
  rcases h5 with rfl|rfl|rfl|rfl|rfl<;>simp at ho<;>simp[T7,GC,ho]
  .omega
  all_goals exact(aoZ (by omega)).symm
 .have a1:=hj 1 (by omega);have a2:=hj 2 (by omega);have a3:=hj 3 (by omega);have a4:=hj 4 (by omega);simp at a1 a2 a3 a4;rw[eY (by omega)];simp[T7,GC]
  try rfl
def N5 (r:Realm):Prop:=∀o,o∈r.orders->o.choices.Pairwise λa b=>a.ask≠b.ask
def qo (q:Int)(ch:Choice):Bool:=decide (ch.ask=q)
def Zh {q:Int}:∀{l:List Choice},l.Pairwise (λa b=>a.ask≠b.ask)->l.find? (mV q)=(l.find? (qo q)).bind λch=>if ch.by_=0 then none else some ch
 |[],_=>rfl
 |ch::l,h=>by
  rw[xF] at h;by_cases h1:ch.ask=q
  .have hn:∀x,x∈l->x.ask≠q:=λx hx e=>h.1 x hx (h1.trans e.symm);have yE:l.find? (mV q)=none:=by
        rw[qk];intro x hx;simp[mV,hn x hx]
   by_cases h2:ch.by_=0
   .simp[NU,mV,qo,h1,h2];have:=yE;unfold mV at this;simpa using this
   .simp[NU,mV,qo,h1,h2]
  .have ih:=Zh (q:=q) h.2;simp[NU,mV,qo,h1];unfold mV qo at ih;exact ih
def ae4 (r:Realm)(l:List Int)(hr:r.orders.length<=100000)(hl:l.length=5)(hx:∀x,x∈l->0<=x/\x<r.orders.length):au T 88 [bB r,ints l] (.bool true):=by
 have eN:i64.wrap ((r.orders.length:Int)-1)=(r.orders.length:Int)-1:=bu (by omega);refine zyv 114 av5 ?_;simp[VZ];refine aP.forRounds l.length (λk=>[.bool false,.int k]) (λ_=>[]) ?_ (λk hk=>?_) ?_
 .simp
 .have hw:=br hk (by omega);have bp:=hx _ (cY hk);have Rz:wi l[k] 0 ((r.orders.length:Int)-1)=true:=by simp[wi];omega
  simp[afv,MK,hk,hw,eN];refine⟨_,zk _ _ _,?_⟩;simp[Rz,hw]
 .simp[afv,MK,hl]
def Pg (o:Order)(q:Int):Choice:=(o.choices.find? (qo q)).getD ⟨q,0,false⟩
def as1 (o:Order)(q:Int)(hl:o.choices.length<=100000):au T 113 [jC o,.int q] (tR (Pg o q)):=by
 refine zyv 116 av2 ?_;simp[VW];unfold Pg;refine aP.scan o.choices.length (λk=>qo q (o.choices.getD k default)=false) (λk=>[.int k]) (λ_=>[.agg [.int 0,.int 0,.bool false]]) ?_ (λk hk hj az=>?_) (λk hk hj az=>?_) (λhj=>?_)
 .simp
 .have hw:=br hk (by omega);have hn:¬o.choices[k].ask=q:=by simpa [qo,hk] using az
  simp[T4,GA,hk,hw,hn]
 .have kM:=ya hk (by simpa [hk] using az) (λj bh=>by have:=hj j bh;simpa [show j<o.choices.length by omega] using this);have hc:o.choices[k].ask=q:=by simpa [qo,hk] using az
  rw[kM];simp[T4,GA,hk,hc];subst hc;rfl
 .have kM:=Ec (l:=o.choices) (p:=qo q) (λj bh=>by have:=hj j bh;simpa [bh] using this);rw[kM];simp[T4,GA]
  try rfl
def as3 (r:Realm)(l0:xB r)(df:N5 r)(hr:r.orders.length<=100000)(a q:Int)(l:List Int)(hf:j6 r a q l=true)(hq:0<=q/\q<22):
 au T 90 [bB r,.int a,.int q,ints l] (.tup [.int (fM r a q l).1,.bool (fM r a q l).2]):=by
 obtain⟨ha,vZ,hx,_⟩:=Bd hf;have eN:i64.wrap ((r.orders.length:Int)-1)=(r.orders.length:Int)-1:=bu (by omega);have ot:a.toNat<r.orders.length:=by omega
 obtain⟨aR,l6⟩:=l0 _ (cY ot);have hpw:=df _ (cY ot);have yF:jR r a=r.orders[a.toNat]:=by simp[jR,ot]
 have jM:=Zh (q:=q) hpw;have Ry:wi a 0 ((r.orders.length:Int)-1)=true:=by simp[wi];omega
 have Fw:wi q 0 21=true:=by simp[wi];omega
 refine zyv 115 av4 ?_;simp[VY,eN];refine⟨_,ae4 r l hr vZ hx,?_⟩;simp;refine⟨_,zk _ _ _,?_⟩;simp[Ry];refine⟨_,zk _ _ _,?_⟩;simp[Fw,ot];refine⟨ha,_,as1 _ q aR,?_⟩;unfold fM;rw[yF,jM];unfold Pg;cases kM:r.orders[a.toNat].choices.find? (qo q) with
 |none=>simp
 |some ch=>
  have hb:=l6 _ (rI kM);have jJ:ch.by_.toNat<l.length:=by omega
  by_cases h0:ch.by_=0
  .simp[h0]
  .simp[h0,jJ];omega
def atQ {l:List Int}{a b:Int}(h:rising l a b=true):l.Pairwise (·<·):=by
 unfold rising at h;rw[Dn] at h
 have step:∀i (h1:i+1<l.length),l[i]'(by omega)<l[i+1]:=by
  intro i h1;have:=h (i+1) h1;have hi:i<l.length:=by omega
  simp[Hb,h1,hi] at this;exact this.2
 rw[zS];intro i j hi hj cK;obtain⟨d,rfl⟩:∃d,j=i+1+d:=⟨j-i-1,by omega⟩
 clear cK
 induction d with
 |zero=>exact step i hj
 |succ d ih=>exact Int.lt_trans (ih (by omega)) (step (i+1+d) hj)
def arw {r:Realm}(h:ic r=0):N5 r:=by
 intro o ho;obtain⟨k,hk,rfl⟩:=gn ho;have h1:=YB h k hk;unfold uJ at h1;simp only[aq] at h1;have h2:=atQ h1.2.1;unfold zV at h2;rw[List.pairwise_map] at h2;exact h2.imp λh=>by omega
def rB (N:Nat)(p:List Int):D:=.list ((List.range N).map λ(i:Nat)=>D.bool (hasB p (i:Int)))
def auf {N:Nat}{p:List Int}{k:Nat}(hk:k<N):(rB N p).l[k]?.getD D.none=D.bool (hasB p (k:Int)):=by
 show((List.range N).map λ(i:Nat)=>D.bool (hasB p (i:Int)))[k]?.getD D.none=_;simp[hk]
def aug (N:Nat)(p:List Int):(rB N p).l.length=N:=by
 show((List.range N).map λ(i:Nat)=>D.bool (hasB p (i:Int))).length=N;simp
def af6 {N:Nat}{p:List Int}{x:Int}(h0:0<=x):D.list ((rB N p).l.set x.toNat (D.bool true))=rB N (p++[x]):=by
 show D.list (((List.range N).map λ(i:Nat)=>D.bool (hasB p (i:Int))).set x.toNat (D.bool true))=_;unfold rB
 congr 1
 apply HO
 .simp
 .intro i h1 h2;simp at h2;rw[List.getElem_set];by_cases h:x.toNat=i
  .have hx:x=(i:Int):=by omega
   simp[h,hx,hasB]
  .have hx:¬(i:Int)=x:=by omega
   have e:hasB (p++[x]) (i:Int)=hasB p (i:Int):=by
        simp[hasB,hx];intro e;exact absurd e.symm hx
   simp[h,e]
@[simp] def aDE (x y:Bool):va (D.bool x) 0 (D.bool y)=D.bool y:=zyy
def as2 (r:Realm)(l0:xB r)(df:N5 r)(hn:r.orders.length<=100000)(a q:Int)(l:List Int)(hf:j6 r a q l=true)(hq:0<=q/\q<22)(anE:l.getD 0 0=a):
 au T 67 [bB r,.int a,.int q,ints l] (.tup [ints (dh r a q l).1,.int (dh r a q l).2]):=by
 obtain⟨ha,vZ,hx,qB⟩:=Bd hf;have h0:0<l.length:=by omega
 have v5:l[0]=a:=by simpa [h0] using anE
 have hE:dh r a q l=jn r q l r.orders.length [a]:=by unfold dh;rw[if_pos ⟨hf,by simp[h0,v5]⟩]
 have eN:i64.wrap ((r.orders.length:Int)-1)=(r.orders.length:Int)-1:=bu (by omega);have Ry:wi a 0 ((r.orders.length:Int)-1)=true:=by simp[wi];omega
 have Fw:wi q 0 21=true:=by simp[wi];omega
 have ot:a.toNat<r.orders.length:=by omega
 rw[hE];refine zyv 113 av3 ?_;simp[VX,eN];refine⟨_,ae4 r l hn vZ hx,?_⟩;simp;refine⟨_,zk _ _ _,?_⟩;simp[Ry];refine⟨_,zk _ _ _,?_⟩;simp[Fw,h0,v5];refine⟨by omega,ha,?_⟩;refine aP.forLoop (α:=Nat×List Int) (λs vr vo=>(∃x,vr=[.list [],.int 0,x,.int ((r.orders.length-s.1:Nat):Int)])/\vo=[rB r.orders.length s.2,ints s.2]/\s.2.Nodup/\(∀x,x∈s.2->0<=x/\x<(r.orders.length:Int))/\s.2≠[]/\s.1+s.2.length=r.orders.length+1/\jn r q l s.1 s.2=jn r q l r.orders.length [a]) (λs=>s.1) (r.orders.length,[a]) ?_ ?_
 .have Re:D.list ((List.replicate r.orders.length (D.bool false)).set a.toNat (D.bool true))=rB r.orders.length [a]:=by
   have h1:(rB r.orders.length [])=D.list (List.replicate r.orders.length (D.bool false)):=by
        unfold rB
        congr 1
        apply HO
        .simp
        .intro i h1 h2;simp[hasB]
   have h2:=af6 (N:=r.orders.length) (p:=[]) (x:=a) ha.1;rw[h1] at h2;exact h2
  simp[ints,ot,Re];exact ha
 .rintro⟨n,p⟩ vr vo ⟨⟨x0,rfl⟩,rfl,bn,bp,aB,hlen,um⟩;simp only at*;have dO:p.length<=r.orders.length:=L1 _ p bn bp;have v9:0<p.length:=zO.mpr aB;obtain⟨m,rfl⟩:∃m,n=m+1:=⟨n-1,by omega⟩
  have ah:p.length-1<p.length:=by omega
  have jf:cE p=p[p.length-1]:=by simp[cE,ah]
  have oB:=bp _ (cY ah);rw[<-jf] at oB;have yf:=as3 r l0 df hn (cE p) q l (qB _ oB.1 oB.2) hq;obtain⟨_,fw,fy⟩:=NO r l0 (cE p) q l (by omega) (qB _ oB.1 oB.2);have yA:((p.length:Int)-1).toNat=p.length-1:=by omega
  have yR:i64.wrap ((p.length:Int)-1)=(p.length:Int)-1:=bu (by omega);rw[<-um,FD];obtain⟨L,hL⟩:∃L,L=fM r (cE p) q l:=⟨_,rfl⟩
  rw[<-hL] at yf fw fy ⊢;obtain⟨to,whole⟩:=L;simp only at yf fw fy;have qU:to.toNat<r.orders.length:=by omega
  have yF:jR r to=r.orders[to.toNat]:=by simp[jR,qU]
  simp only[yF];have hk:((r.orders.length-(m+1):Nat):Int)<=r.orders.length:=by omega
  have hkw:i64.wrap (((r.orders.length-(m+1):Nat):Int)+1)=((r.orders.length-m:Nat):Int):=by rw[bu (by omega)];omega
  simp[atq,T5,yR,yA,ah,<-jf,ints,hk];refine⟨by omega,_,yf,by omega,?_⟩;by_cases h1:to=cE p
  .simp[h1]
  simp[h1];refine⟨by omega,?_⟩;cases whole
  .simp
  have kj:=auf (N:=r.orders.length) (p:=p) qU;have yM:((to.toNat:Nat):Int)=to:=by omega
  rw[yM] at kj
  have dE:∀h:to.toNat<(rB r.orders.length p).l.length,(rB r.orders.length p).l[to.toNat]=D.bool (hasB p to):=λh=>by
   rw[bE h] at kj;exact kj
  simp[aug,dE,qU,fw,fy,af6];cases h2:hasB p to
  .have dp:to∉p:=λhm=>by
        have:hasB p to=true:=by simp[hasB,hm]
        rw[h2] at this;cases this
   simp[h2];refine⟨m,by omega,hkw,p++[to],⟨rfl,by simp⟩,?_,?_,by simp,by simp;omega,rfl⟩
   .exact zR.mpr ⟨bn,by simp,λx hx y hy=>by simp at hy;subst hy;exact λe=>dp (e▸hx)⟩
   .intro x hx;rcases dm.mp hx with h|h
    .exact bp x h
    .simp at h;subst h;exact⟨fw,fy⟩
  .cases h3:r.orders[to.toNat].accepts<;>simp[h2,h3,qU]
def R1 (L:Nat)(t:Tm):1<=bk L t:=wH L t
def agk:∀(L:Nat) (t:Tm) (n:Int),0<=n->n<=60->(bk L t<=n->gU L t n=n-bk L t)/\(n<bk L t->gU L t n<0)
 |0,t,n,h0,h1=>by
  refine⟨λh=>?_,λ_=>by simp[gU]⟩;simp[bk] at h;omega
 |L+1,t,n,h0,h1=>by
  have key:∀(l:List Tm) (m:Int),1<=m->m<=60->
    (di (bk L) l m<=n->l.foldl (λm a=>if 0<=m then gU L a m else m) (n-m)=n-di (bk L) l m)/\(n<di (bk L) l m->l.foldl (λm a=>if 0<=m then gU L a m else m) (n-m)<0):=by
   intro l
   induction l with
   |nil=>
    intro m EX yB;simp only[di,XM];exact⟨λ_=>trivial,λh=>by omega⟩
   |cons a l ih=>
    intro m EX yB;have hp:=R1 L a;simp only[HQ,di];by_cases hn:0<=n-m
    .rw[if_pos hn];obtain⟨s1,s2⟩:=agk L a (n-m) hn (by omega);by_cases hle:bk L a<=n-m
     .rw[s1 hle];have e:n-m-bk L a=n-(m+bk L a):=by omega
      rw[e,if_neg (by omega)];exact ih (m+bk L a) (by omega) (by omega)
     .have aaI:=s2 (by omega);rw[Nj L l _ aaI];have yo:n<(if 60<m+bk L a then m+bk L a else di (bk L) l (m+bk L a)):=by
        split
        .omega
        .have:m+bk L a<=di (bk L) l (m+bk L a):=by
             have gen:∀(l:List Tm) (x:Int),x<=di (bk L) l x:=by
               intro l
               induction l with
               |nil=>intro x;simp[di]
               |cons b l kT=>
                intro x;have hb:=R1 L b;simp only[di];split
                .omega
                .have:=kT (x+bk L b);omega
             exact gen l _
         omega
      exact⟨λh=>by omega,λ_=>aaI⟩
    .rw[if_neg hn,Nj L l _ (by omega)];have gen:∀(l:List Tm) (x:Int),x<=di (bk L) l x:=by
       intro l
       induction l with
       |nil=>intro x;simp[di]
       |cons b l kT=>
        intro x;have hb:=R1 L b;simp only[di];split
        .omega
        .have:=kT (x+bk L b);omega
     have yo:n<(if 60<m+bk L a then m+bk L a else di (bk L) l (m+bk L a)):=by
       have:=gen l (m+bk L a);split<;>omega
     exact⟨λh=>by omega,λ_=>by omega⟩
  show(di (bk L) t.args 1<=n->_)/\(n<di (bk L) t.args 1->_)
  exact key t.args 1 (by omega) (by omega)
def agj (t:Tm):gU 8 t 60<0↔60<bk 8 t:=by
 obtain⟨h1,h2⟩:=agk 8 t 60 (by omega) (by omega);constructor
 .intro h;refine xC λhc=>?_;have:=h1 (by omega);omega
 .exact h2
def fF (op:Int):Int:=if op=0\/op=1\/op=2 then 0 else if op=3 then 1 else if op=6 then 3 else 2
def asU (op:Int):au T 149 [.int op] (.int (fF op)):=by
 refine zyv 122 avO ?_;unfold fF;by_cases h0:op=0
 .simp[xm,h0]
 by_cases h1:op=1
 .simp[xm,h0,h1]
 by_cases h2:op=2
 .simp[xm,h0,h1,h2]
 by_cases h3:op=3
 .simp[xm,h0,h1,h2,h3]
 by_cases h6:op=6
 .simp[xm,h0,h1,h2,h3,h6]
 .simp[xm,h0,h1,h2,h3,h6]
def aeY (v:Int):au T 152 [.int v] (.tup [.int (kZ v).1,.bool (kZ v).2]):=by
 refine zyv 124 avN ?_;unfold kZ;by_cases h1:v<0
 .simp[C6,h1]
 by_cases h2:19<v
 .simp[C6,h1,h2,show 20<=v by omega]
 by_cases h3:v<7
 .simp[C6,h1,h2,h3,show ¬20<=v by omega,show v<=6 by omega]
 .simp[C6,h1,h2,h3,show ¬20<=v by omega,show ¬v<=6 by omega]
def asW (t:Tm)(ha:t.args.length=0)(ho:t.op=0\/t.op=1\/t.op=2):au T 150 [dB t] (.tup [.int (sA t).1,.int (sA t).2]):=by
 have hv:=aeY t.n;refine zyv 123 avR ?_;unfold sA;rw[if_neg (by omega)];by_cases h0:t.op=0
 .have hc:mC t.n≠t.n↔t.n< -1099511627776\/1099511627776<t.n:=by unfold mC;omega
  by_cases h:t.n< -1099511627776\/1099511627776<t.n
  .rw[if_pos h0,if_pos (hc.2 h)];simp[xn,h0,h]
  .rw[if_pos h0,if_neg (λe=>h (hc.1 e))];simp[xn,h0,h]
 by_cases h1:t.op=1
 .by_cases h:t.n=0
  .simp[xn,h0,h1,h]
  by_cases h':t.n=1
  .simp[xn,h0,h1,h']
  .have:t.n<0\/1<t.n:=by omega
   simp[xn,h0,h1,h,h',this]
 .simp[xn,h0,h1];refine⟨_,hv,?_⟩;cases h2:(kZ t.n).2<;>simp[h2]
def BZ (op:Int)(l:List Int):Int×Bool:=
 if op=3 then(1,decide (l.getD 0 0=1)) else if op=4\/op=5 then(1,decide (l.getD 0 0=1)&&decide (l.getD 1 0=1))
 else if op=6 then(l.getD 1 0,decide (l.getD 0 0=1)&&decide (l.getD 1 0=l.getD 2 0)) else if op=7 then(1,decide (l.getD 0 0=0)&&decide (l.getD 1 0=0))
 else if op=8 then(1,decide (l.getD 0 0=l.getD 1 0)) else(0,decide (l.getD 0 0=0)&&decide (l.getD 1 0=0))
def asV (op:Int)(l:List Int)(h1:1<=l.length)(h2:op≠3->2<=l.length)(h3:op=6->3<=l.length):au T 151 [.int op,ints l] (.tup [.int (BZ op l).1,.bool (BZ op l).2]):=by
 have g0:0<l.length:=by omega
 refine zyv 125 avQ ?_;unfold BZ;by_cases o3:op=3
 .simp[vc,o3,g0]
 have g1:1<l.length:=by have:=h2 o3;omega
 have gJ:(1:Int)<l.length:=by omega
 by_cases o4:op=4
 .by_cases e0:l[0]=1<;>simp[vc,o4,g0,g1,gJ,e0]
 by_cases o5:op=5
 .by_cases e0:l[0]=1<;>simp[vc,o5,g0,g1,gJ,e0]
 by_cases o6:op=6
 .have g2:2<l.length:=by have:=h3 o6;omega
  have pz:(2:Int)<l.length:=by omega
  by_cases e0:l[0]=1<;>simp[vc,o6,g0,g1,g2,gJ,pz,e0]
 by_cases o7:op=7
 .by_cases e0:l[0]=0<;>simp[vc,o7,g0,g1,gJ,e0]
 by_cases o8:op=8
 .simp[vc,o8,g0,g1,gJ]
 .by_cases e0:l[0]=0<;>simp[vc,o3,o4,o5,o6,o7,o8,g0,g1,gJ,e0]
def apo {α:Type}{l:List α}(h:l.length=1):∃a,l=[a]:=by
 match l,h with
 |[a],_=>exact⟨a,rfl⟩
def apq {α:Type}{l:List α}(h:l.length=2):∃a b,l=[a,b]:=by
 match l,h with
 |[a,b],_=>exact⟨a,b,rfl⟩
def apr {α:Type}{l:List α}(h:l.length=3):∃a b c,l=[a,b,c]:=by
 match l,h with
 |[a,b,c],_=>exact⟨a,b,c,rfl⟩
def arj (t:Tm)(ks:List Int)(hk:ks.length=t.args.length)(dR:∀x,x∈ks->x=0\/x=1):sC t ks=if t.op<0\/13<t.op then(0,1) else if(ks.length:Int)≠fF t.op\/(0<fF t.op/\t.n≠0) then(0,2) else
 if fF t.op=0 then sA t else if(BZ t.op ks).2=false then(0,11) else((BZ t.op ks).1,0):=by
 unfold sC;by_cases h0:t.op<0\/13<t.op
 .rw[if_pos h0,if_pos h0]
 rw[if_neg h0,if_neg h0];by_cases hl:t.op=0\/t.op=1\/t.op=2
 .have ha:fF t.op=0:=by unfold fF;rw[if_pos hl]
  rw[if_pos hl,ha];by_cases hz:ks.length=0
  .rw[if_neg (by omega),if_pos rfl]
  .rw[if_pos (by omega)];unfold sA;rw[if_pos (by omega)]
 rw[if_neg hl];have hr:3<=t.op/\t.op<=13:=by omega
 have Kq:fF t.op=((dU t.op).1.length:Int):=by
  unfold fF dU;rw[if_neg hl];by_cases o3:t.op=3
  .simp[o3]
  by_cases o6:t.op=6
  .simp[o6]
  rw[if_neg o3,if_neg o6];split
  .omega
  split
  .rfl
  split
  .rfl
  split<;>rfl
 by_cases hc:ks.length≠(dU t.op).1.length\/t.n≠0
 .rw[if_pos hc,if_pos];rw[Kq];have:1<=(dU t.op).1.length:=by
   unfold dU
   repeat' split
   all_goals simp
  omega
 have hB:¬((ks.length:Int)≠fF t.op\/(0<fF t.op/\t.n≠0)):=by rw[Kq];omega
 rw[if_neg hc,if_neg hB];clear hB;have aB:fF t.op≠0:=by
  unfold fF;rw[if_neg hl]
  repeat' split
  all_goals omega
 rw[if_neg aB];have hlen:ks.length=(dU t.op).1.length:=by omega
 by_cases o3:t.op=3
 .simp[dU,o3] at hlen;obtain⟨a,rfl⟩:=apo hlen;rw[o3];rcases dR a (by simp) with rfl|rfl<;>rfl
 have two:ks.length=2->∃a b,ks=[a,b]/\(a=0\/a=1)/\(b=0\/b=1):=λh=>by
  obtain⟨a,b,rfl⟩:=apq h;exact⟨a,b,rfl,dR a (by simp),dR b (by simp)⟩
 by_cases o6:t.op=6
 .simp[dU,o6] at hlen;obtain⟨a,b,c,rfl⟩:=apr hlen;rcases dR a (by simp) with rfl|rfl<;>rcases dR b (by simp) with rfl|rfl<;>rcases dR c (by simp) with rfl|rfl<;>rw[o6]<;>rfl
 have aaO:t.op=4\/t.op=5\/t.op=7\/t.op=8\/t.op=9\/t.op=10\/t.op=11\/t.op=12\/t.op=13:=by omega
 have oA:ks.length=2:=by
  rw[hlen];rcases aaO with h|h|h|h|h|h|h|h|h<;>rw[h]<;>rfl
 obtain⟨a,b,rfl,ha,hb⟩:=two oA;rcases aaO with h|h|h|h|h|h|h|h|h<;>rw[h]<;>rcases ha with rfl|rfl<;>rcases hb with rfl|rfl<;>rfl
def aib {op:Int}(h:fF op=0):op=0\/op=1\/op=2:=by
 unfold fF at h;split at h
 .assumption
 .exfalso
  repeat' split at h
  all_goals omega
def Tz:∀(L:Nat) (t:Tm),t.OK->bk L t<=60->au T 136 [dB t] (.tup [.int (bq L t).1,.int (bq L t).2])
 |0,t,ht,hm=>by simp[bk] at hm
 |L+1,t,ht,hm=>by
  refine zyv 121 avV ?_;obtain⟨hl,hp⟩:=FK hm;simp[VP];refine xd t.args.length (λk=>(bq L (t.args.getD k default)).2) (λk=>[.int 0,.int 0,.none,.int k]) (λk=>[ints ((t.args.map λa=>(bq L a).1).take k)]) ?_ (λk hk ho=>?_) (λk hk ho hb=>?_) (λhj=>?_)
  .simp[ints]
  .have hw:=br hk (by omega);have cL:=cY hk;have ga:=Tz L t.args[k] (ht.arg cL) (hp _ cL);have EN:(t.args.map λa=>(bq L a).1)[k]'(by simpa using hk)=(bq L t.args[k]).1:=by simp
   have wk:(t.args.map λa=>(bq L a).1).take (k+1)=(t.args.map λa=>(bq L a).1).take k++[(bq L t.args[k]).1]:=by
    rw[ql (by simpa using hk),EN]
   have hlen:((t.args.map λa=>(bq L a).1).take k).length=k:=by simp;omega
   rw[wk];generalize (t.args.map λa=>(bq L a).1).take k=A at*;simp[hk] at ho;rw[ho] at ga;generalize (bq L t.args[k]).1=kd at*;simp[TZ,Gx,hk];refine⟨_,ga,?_⟩;simp[hlen,hk,hw,ints];omega
  .have cL:=cY hk;have ga:=Tz L t.args[k] (ht.arg cL) (hp _ cL);have hf:bq (L+1) t=(0,(bq L (t.args.getD k default)).2):=by
    rw[DK,hb,if_pos ho]
   rw[hf];simp[hk] at ho ⊢;simp[TZ,Gx,hk];refine⟨_,ga,?_⟩;simp[ho]
  .have hf:bq (L+1) t=sC t (t.args.map λa=>(bq L a).1):=by
    rw[DK,hj];simp
   have dR:∀x,x∈(t.args.map λa=>(bq L a).1)->x=0\/x=1:=by
    intro x hx;obtain⟨a,ha,rfl⟩:=dX.1 hx;obtain⟨k,hk,rfl⟩:=gn ha;have hz:(bq L t.args[k]).2=0:=by
     have:=(J0.1 hj) k hk;simpa [hk] using this
    cases L with
    |zero=>have:=hp _ ha;simp[bk] at this
    |succ L=>exact(DL (L:=L) (t:=t.args[k]) (k:=(bq (L+1) t.args[k]).1) (by rw[<-hz])).2
   rw[hf,arj t _ (by simp) dR];have uo:(t.args.map λa=>(bq L a).1).length=t.args.length:=by simp
   have e0:(t.args.map λa=>(bq L a).1).take t.args.length=t.args.map λa=>(bq L a).1:=by rw[<-uo,Dk]
   rw[e0];generalize (t.args.map λa=>(bq L a).1)=ks at*;simp[TZ,Gx];by_cases h0:t.op<0\/13<t.op
   .have jE:t.op<0\/14<=t.op:=by omega
    simp[h0,jE]
   have jE:¬(t.op<0\/14<=t.op):=by omega
   simp[h0,jE];refine⟨_,asU t.op,?_⟩;by_cases h1:(ks.length:Int)≠fF t.op\/(0<fF t.op/\t.n≠0)
   .rw[if_pos h1];have da:¬(ks.length:Int)=fF t.op\/(0<fF t.op/\¬t.n=0):=h1;simp[da]
   rw[if_neg h1];have da:¬(¬(ks.length:Int)=fF t.op\/(0<fF t.op/\¬t.n=0)):=h1;simp[da];by_cases h2:fF t.op=0
   .have bT:=aib h2;simp[h2];refine⟨_,asW t (by omega) bT,?_⟩;simp
   have bT:¬(t.op=0\/t.op=1\/t.op=2):=by
    intro h;apply h2;unfold fF;rw[if_pos h]
   have bW:1<=ks.length:=by
    have:1<=fF t.op:=by
     unfold fF;rw[if_neg bT]
     repeat' split
     all_goals omega
    omega
   simp[h2];refine⟨_,asV t.op ks bW (λh3=>?_) (λh6=>?_),?_⟩
   .have:2<=fF t.op:=by
     unfold fF;rw[if_neg bT,if_neg h3];split<;>omega
    omega
   .have:fF t.op=3:=by rw[h6];rfl
    omega
   .cases h3:(BZ t.op ks).2<;>simp[h3]
def aeW (t:Tm)(ht:t.OK):au T 114 [dB t] (.tup [.int (kF t).1,.int (kF t).2]):=by
 refine zyv 120 avH ?_;simp[VJ,kF];refine⟨_,Tx 8 t 60 ht (by omega) (by omega) (by omega),?_⟩;by_cases h:60<bk 8 t
 .have:=(agj t).2 h;simp[h,this]
 have hn:¬gU 8 t 60<0:=λe=>h ((agj t).1 e);simp[h,hn];refine⟨_,Tz 8 t ht (by omega),?_⟩;simp
def Tw (n:Int):au T 153 [.int n] (.int (mC n)):=by
 refine zyv 131 avI ?_;unfold mC;by_cases h1:n< -1099511627776
 .simp[Ny];split<;>split<;>simp<;>omega
 .simp[Ny];split<;>split<;>simp<;>omega
def ae1 (b:Bool):au T 154 [.bool b] (cu (fD b)):=by
 refine zyv 134 avU ?_;cases b<;>simp[VO]<;>rfl
def asT (v:Int)(cs:List Cell)(hv:0<=v):au T 137 [.int v,cells cs] (cu (kY cs v)):=by
 obtain⟨k,rfl⟩:=vl hv;refine zyv 130 avM ?_;simp[VM,kY,cellAt];by_cases h1:cs.length<=k
 .have PY:(cs.length:Int)<=k:=by omega
  simp[h1,PY]
 have da:k<cs.length:=by omega
 have PY:¬(cs.length:Int)<=k:=by omega
 simp[h1,da,PY];cases h2:cs[k].known
 .simp[h2]
 simp[h2];refine⟨_,aeY _,?_⟩;rcases ahi k with h3|h3
 .simp[h3];refine⟨_,Tw _,?_⟩;simp;rfl
 .simp[h3];by_cases h4:cs[k].n=0
  .simp[h4];rfl
  .simp[h4];rfl
def ae0 (a b:Cell)(alone:Int)(h:alone=0\/alone=1):au T 138 [cu a,cu b,.int alone] (cu (if(a.known=true/\a.n=alone)\/(b.known=true/\b.n=alone) then⟨true,alone⟩ else if a.known=true/\b.known=true then⟨true,1-alone⟩ else dj)):=by
 have hw:i64.wrap (1-alone)=1-alone:=bu (by omega);refine zyv 132 avS ?_;obtain⟨ka,na⟩:=a;obtain⟨kb,nb⟩:=b;by_cases e1:na=alone<;>by_cases e2:nb=alone<;>cases ka<;>cases kb<;>simp[VN,e1,e2,hw]<;>rfl
def asS (a b:Int)(ha:-1099511627776<=a/\a<=1099511627776)(hb:-1099511627776<=b/\b<=1099511627776):au T 155 [.int a,.int b] (.int (ri a b)):=by
 refine zyv 135 avL ?_;by_cases h0:a=0\/b=0
 .have hz:ri a b=0:=by
   unfold ri nM;rcases h0 with rfl|rfl<;>simp
  rw[hz];simp[Nz,h0]
 obtain⟨x,hx⟩:∃x,x=(if a< -a then-a else a):=⟨_,rfl⟩
 obtain⟨y,hy⟩:∃y,y=(if b< -b then-b else b):=⟨_,rfl⟩
 have kS:x=(a.natAbs:Int):=by rw[hx];split<;>omega
 have hyb:y=(b.natAbs:Int):=by rw[hy];split<;>omega
 have cg:1<=x/\x<=1099511627776:=by omega
 have hy1:1<=y/\y<=1099511627776:=by omega
 have wa:i64.wrap (0-a)=-a:=by rw[bu (by omega)];omega
 have wb:i64.wrap (0-b)=-b:=by rw[bu (by omega)];omega
 have wa':i64.wrap (-a)=-a:=bu (by omega);have wb':i64.wrap (-b)=-b:=bu (by omega);simp[Nz,h0,wa,wb,wa',wb',<-hx,<-hy];refine⟨by omega,?_⟩;have hq:Int.tdiv 1099511627776 y=1099511627776/y:=ahH (by omega);have we:0<=(1099511627776:Int)/y:=Int.ediv_nonneg (by omega) (by omega);have hq1:(1099511627776:Int)/y<=1099511627776:=Int.ediv_le_self _ (by omega);have Fw:i64.wrap (Int.tdiv 1099511627776 y)=1099511627776/y:=by rw[hq];exact bu (by omega)
 have ah:(1099511627776:Int)/y<x↔1099511627776<x*y:=Int.ediv_lt_iff_lt_mul (by omega);obtain⟨m,hm⟩:∃m:Nat,m=a.natAbs*b.natAbs:=⟨_,rfl⟩
 have hmx:(m:Int)=x*y:=by rw[hm,kS,hyb];exact Int.natCast_mul _ _
 have hp:ri a b=if(a<0↔b<0) then nM m else-nM m:=by
  unfold ri;rw[<-hm];by_cases c1:a<0<;>by_cases c2:b<0<;>simp[c1,c2]
 have hpn:nM m=if 1099511627776<x*y then 1099511627776 else x*y:=by
  unfold nM;rw[<-hmx];split<;>split<;>omega
 rw[hp,hpn,Fw];by_cases hc:1099511627776<x*y
 .have Bs:=ah.2 hc;rw[if_pos hc,if_pos Bs,if_pos Bs];split<;>rfl
 .have Bs:¬(1099511627776:Int)/y<x:=λe=>hc (ah.1 e);rw[if_neg hc,if_neg Bs,if_neg Bs];have v9:0<=x*y:=by rw[<-hmx];omega
  split
  .exact bu (by omega)
  .rw[bu (n:=-x) (by omega),Int.neg_mul];exact bu (by omega)
def asX (op a b:Int)(ha:9<=op->-1099511627776<=a/\a<=1099511627776)(hb:9<=op->-1099511627776<=b/\b<=1099511627776)(ho:7<=op):
 au T 139 [.int op,.int a,.int b] (cu (if op=7 then fD (decide (a<b)) else if op=8 then fD (decide (a=b)) else⟨true,tK op a b⟩)):=by
 refine zyv 133 avT ?_;unfold tK;by_cases h7:op=7
 .simp[vd,h7];refine⟨_,ae1 _,?_⟩;simp
  try rfl
 by_cases h8:op=8
 .simp[vd,h8];refine⟨_,ae1 _,?_⟩;simp
  try rfl
 have a1:=ha (by omega);have b1:=hb (by omega);have w1:i64.wrap (a+b)=a+b:=bu (by omega);have w2:i64.wrap (a-b)=a-b:=bu (by omega);by_cases h9:op=9
 .simp[vd,h9,w1];refine⟨_,Tw _,?_⟩;simp
  try rfl
 by_cases j9:op=10
 .simp[vd,j9,w2];refine⟨_,Tw _,?_⟩;simp
  try rfl
 by_cases kK:op=11
 .simp[vd,kK];refine⟨_,asS a b a1 b1,?_⟩;simp
  try rfl
 by_cases sd:op=12
 .simp[vd,sd];have e:(if b<a then D.int b else D.int a)=D.int (min a b):=by
   split
   .rw[Int.min_eq_right (by omega)]
   .rw[Int.min_eq_left (by omega)]
  rw[e];rfl
 .simp[vd,h7,h8,h9,j9,kK,sd];have e:(if a<b then D.int b else D.int a)=D.int (max a b):=by
   split
   .rw[Int.max_eq_right (by omega)]
   .rw[Int.max_eq_left (by omega)]
  rw[e];rfl
def aeZ:∀(L:Nat) (cs:List Cell) (t:Tm) (k:Int),t.OK->bk L t<=60->bq L t=(k,0)->au T 116 [dB t,cells cs] (cu (aZ L cs t))
 |0,cs,t,k,ht,hm,hc=>by simp[bk] at hm
 |L+1,cs,t,k,ht,hm,hc=>by
  refine zyv 129 avP ?_;obtain⟨hl,hp⟩:=FK hm;obtain⟨ha,_⟩:=JO hc;obtain⟨hn,anA⟩:=DL hc;have ga:∀a,a∈t.args->au T 116 [dB a,cells cs] (cu (aZ L cs a)):=λa dM=>aeZ L cs a (bq L a).1 (ht.arg dM) (hp a dM) (by rw[<-ha a dM]);have pI:∀a,a∈t.args->rJ (bq L a).1 (aZ L cs a):=λa dM=>PA cs (show bq L a=((bq L a).1,0) by rw[<-ha a dM]);by_cases dR:t.op=0\/t.op=1
  .have e1:aZ (L+1) cs t=⟨true,t.n⟩:=by rw[x9,if_pos dR]
   rw[e1];rcases dR with h|h<;>simp[Ho,h]<;>rfl
  have o0:t.op≠0:=λh=>dR (.inl h);have o1:t.op≠1:=λh=>dR (.inr h);by_cases o2:t.op=2
  .have hv:0<=t.n:=by
    cases hn with
    |var h0 ha hn=>exact hn.1
    |_=>omega
   have e1:aZ (L+1) cs t=kY cs t.n:=by rw[x9,if_neg dR,if_pos o2]
   rw[e1];simp[Ho,o2];refine⟨_,asT t.n cs hv,?_⟩;simp
   try rfl
  have e1:aZ (L+1) cs t=if t.op=6/\(bf (t.args.map (aZ L cs)) 0).known=true then bf (t.args.map (aZ L cs)) (2-(bf (t.args.map (aZ L cs)) 0).n).toNat else fc t.op (t.args.map (aZ L cs)):=by
   rw[x9,if_neg dR,if_neg o2]
  rw[e1];simp[Ho,o0,o1,o2];refine aP.forRounds t.args.length (λk=>[.none,.int k]) (λk=>[cells ((t.args.map (aZ L cs)).take k)]) ?_ (λk hk=>?_) ?_
  .simp[cells]
  .have hw:=br hk (by omega);have cL:=cY hk;have hr:=ga _ cL;have EN:(t.args.map (aZ L cs))[k]'(by simpa using hk)=aZ L cs t.args[k]:=by simp
   have wk:(t.args.map (aZ L cs)).take (k+1)=(t.args.map (aZ L cs)).take k++[aZ L cs t.args[k]]:=by
    rw[ql (by simpa using hk),EN]
   have hlen:((t.args.map (aZ L cs)).take k).length=k:=by simp;omega
   rw[wk];generalize (t.args.map (aZ L cs)).take k=A at*;generalize aZ L cs t.args[k]=c at*;simp[u4,rv,hk];refine⟨_,hr,?_⟩;simp[hlen,hk,hw,cells];omega
  .have lA:(t.args.map (aZ L cs)).length=t.args.length:=by simp
   have e0:(t.args.map (aZ L cs)).take t.args.length=t.args.map (aZ L cs):=by rw[<-lA,Dk]
   rw[e0];have val:∀(k:Int) (c:Cell),rJ k c->c=dj\/c.known=true/\(k=1->c.n=0\/c.n=1)/\(k=0->-1099511627776<=c.n/\c.n<=1099511627776):=by
    intro k c hr;cases e:c.known with
    |false=>exact .inl (hr.1 e)
    |true=>exact .inr ⟨rfl,hr.2 e⟩
   by_cases h7:7<=t.op
   .obtain⟨k',hk,ZH,h9⟩:∃k',t.args.map (λa=>(bq L a).1)=[k',k']/\t.op<=13/\(9<=t.op->k'=0):=by
     cases hn with
     |less o hk=>exact⟨0,hk,by omega,λ_=>rfl⟩
     |equal k o hk=>exact⟨k,hk,by omega,λ_=>by omega⟩
     |num o hk=>exact⟨0,hk,by omega,λ_=>rfl⟩
     |log h0 hk=>omega
     |_=>omega
    obtain⟨a,b,fY,ea,eb⟩:=wF hk;have qL:t.args.length=2:=by rw[fY];rfl
    have ra:=pI a (by simp[fY]);rw[ea] at ra;have rb:=pI b (by simp[fY]);rw[eb] at rb;rw[fY];simp only[gq,tF,mA,tE];generalize aZ L cs a=A at*;generalize aZ L cs b=B at*;have o3:¬t.op=3:=by omega
    have o4:¬t.op=4:=by omega
    have o5:¬t.op=5:=by omega
    have o6:¬t.op=6:=by omega
    have ec:fc t.op [A,B]=if A.known=false\/B.known=false then dj else if t.op=7 then fD (decide (A.n<B.n)) else if t.op=8 then fD (decide (A.n=B.n)) else⟨true,tK t.op A.n B.n⟩:=by
     unfold fc;rw[if_neg o3,if_neg (by omega),if_neg o6];have:¬(t.op=4\/t.op=5):=by omega
     rw[if_neg this];rfl
    rw[if_neg (by omega),ec];cases e1:A.known<;>cases e2:B.known<;>simp[u4,rv,qL,o3,o4,o5,o6,cells,e1,e2]
    .have b1:9<=t.op->-1099511627776<=A.n/\A.n<=1099511627776:=λh=>(ra.2 e1).2 (h9 h);have b2:9<=t.op->-1099511627776<=B.n/\B.n<=1099511627776:=λh=>(rb.2 e2).2 (h9 h);refine⟨_,asX t.op A.n B.n b1 b2 h7,?_⟩;simp
     try rfl
   cases hn with
   |int h0 ha hn=>omega
   |bool h0 ha hn=>omega
   |var h0 ha hn=>omega
   |not o3 hk=>
    obtain⟨a,fY,e⟩:=aca hk;have qL:t.args.length=1:=by rw[fY];rfl
    have ra:=pI a (by simp[fY]);rw[e] at ra;rw[fY];simp only[gq,tF,mA,tE];generalize aZ L cs a=A at*;rcases val _ _ ra with rfl|⟨h1,h2,_⟩
    .simp[u4,rv,qL,o3,fc,cells,bf,dj]
    .obtain⟨ka,na⟩:=A;simp at h1;subst h1;rcases h2 rfl with h|h<;>simp at h<;>subst h<;>simp[u4,rv,qL,o3,fc,cells,bf]<;>rfl
   |log B5 hk=>
    obtain⟨a,b,fY,ea,eb⟩:=wF hk;have qL:t.args.length=2:=by rw[fY];rfl
    have ra:=pI a (by simp[fY]);rw[ea] at ra;have rb:=pI b (by simp[fY]);rw[eb] at rb;rw[fY];simp only[gq,tF,mA,tE];generalize aZ L cs a=A at*;generalize aZ L cs b=B at*;have key:∀al:Int,(al=0\/al=1)->t.op=4+al->(if(A.known=true/\A.n=al)\/(B.known=true/\B.n=al) then(⟨true,al⟩:Cell) else if A.known=true/\B.known=true then⟨true,1-al⟩ else dj)=fc t.op [A,B]:=by
     intro al qB bT;rw[bT];have v3:∀c:Cell,rJ 1 c->c=dj\/c=⟨true,0⟩\/c=⟨true,1⟩:=by
        intro c hr;rcases val _ _ hr with h|⟨h,h2,_⟩
        .exact .inl h
        .rcases h2 rfl with h3|h3
         .exact .inr (.inl ((Ij _ _).2 ⟨h,h3⟩))
         .exact .inr (.inr ((Ij _ _).2 ⟨h,h3⟩))
     rcases v3 _ ra with rfl|rfl|rfl<;>rcases v3 _ rb with rfl|rfl|rfl<;>rcases qB with rfl|rfl<;>rfl
    rcases B5 with o|o
    .rw[if_neg (by omega),<-key 0 (.inl rfl) o];simp[u4,rv,qL,o,cells];refine⟨_,ae0 A B 0 (.inl rfl),?_⟩;simp
     try rfl
    .rw[if_neg (by omega),<-key 1 (.inr rfl) o];simp[u4,rv,qL,o,cells];refine⟨_,ae0 A B 1 (.inr rfl),?_⟩;simp
     try rfl
   |ite k o6 hk=>
    obtain⟨a,b,c,fY,ea,eb,ec⟩:=Lu hk;have qL:t.args.length=3:=by rw[fY];rfl
    have ra:=pI a (by simp[fY]);rw[ea] at ra;have w2:i64.wrap 2=2:=bu (by omega);rw[fY];simp only[gq,tF,mA,tE];generalize aZ L cs a=A at*;generalize aZ L cs b=B at*;generalize aZ L cs c=C at*;rcases val _ _ ra with rfl|⟨h1,h2,_⟩
    .by_cases g:B.known=true/\B=C
     .have gg:=g.2;have gk:=g.1;subst gg;simp[u4,rv,qL,o6,fc,cells,bf,dj,gk];obtain⟨kb,nb⟩:=B;simp at gk;subst gk;rfl
     .have g':¬(B.known=true/\C.known=true/\B.n=C.n):=λh=>g ⟨h.1,(Ij B C).2 ⟨by rw[h.1,h.2.1],h.2.2⟩⟩;rw[if_neg (by simp[bf,dj])];unfold fc;rw[if_neg (by omega),if_neg (by omega),if_pos o6];simp only[bf,aN];simp;rw[if_neg g];cases e1:B.known<;>cases e2:C.known<;>simp[u4,rv,qL,o6,cells,dj,e1,e2];have:¬B.n=C.n:=λh=>g' ⟨e1,e2,h⟩;simp[this]
    .obtain⟨ka,na⟩:=A;simp at h1;subst h1;rcases h2 rfl with h|h<;>simp at h<;>subst h<;>simp[u4,rv,qL,w2,o6,fc,cells,bf]<;>rfl
   |less o hk=>omega
   |equal k o hk=>omega
   |num o hk=>omega
def asR (t:Tm)(cs:List Cell)(ht:t.OK):au T 92 [dB t,cells cs] (cu (tW cs t)):=by
 refine zyv 128 avJ ?_;simp[VK,tW];refine⟨_,aeW t ht,?_⟩;by_cases h:(kF t).2=0
 .obtain⟨h1,h2⟩:=Yz h;simp[h];refine⟨_,aeZ 8 cs t _ ht h1 h2,?_⟩;simp
  try rfl
 .simp[h]
  try rfl
def TA (ask:Int):au T 66 [.int ask] (.bool (decide (0<=ask/\ask<22))):=by
 refine zyv 112 avY ?_;by_cases h:0<=ask<;>by_cases h2:ask<22<;>simp[VS,h,h2]
def aeQ (ask:Int)(h:0<=ask/\ask<22):au T 94 [.int ask] (.bool (!hasB q7 ask)):=by
 refine zyv 127 avu ?_;have hb:hasB q7 ask=true↔ask=6\/ask=7\/ask=10\/ask=12\/ask=13\/ask=14\/ask=15\/ask=16\/ask=20\/ask=21:=by
  simp[hasB,q7];omega
 by_cases hm:ask=6\/ask=7\/ask=10\/ask=12\/ask=13\/ask=14\/ask=15\/ask=16\/ask=20\/ask=21
 .rw[hb.2 hm];rcases hm with h|h|h|h|h|h|h|h|h|h<;>subst h<;>simp[Nw]
 .have hf:hasB q7 ask=false:=by
   cases e:hasB q7 ask
   .rfl
   .exact absurd (hb.1 e) hm
  rw[hf];simp only[not_or] at hm;obtain⟨a1,a2,a3,a4,a5,a6,a7,a8,a9,ph⟩:=hm;simp[Nw,a1,a2,a3,a4,a5,a6,a7,a8,a9,ph];have hw:=zk ask 0 21;have Rz:wi ask 0 21=true:=by simp[wi];omega
  rw[Rz] at hw;exact hw
def asZ (ask:Int):au T 115 [.int ask] (.tup [.int (fP ask).1,.bool (fP ask).2]):=by
 refine zyv 126 av0 ?_;simp[VU,fP];refine⟨_,TA ask,?_⟩;by_cases h:0<=ask/\ask<22
 .have h1:¬(ask<0\/22<=ask):=by omega
  simp[h,h1];refine⟨_,aeQ ask h,?_⟩;cases e:hasB q7 ask<;>simp[e]
 .have h1:ask<0\/22<=ask:=by omega
  simp[h,h1]
def ae3 (o:Order)(ask:Int)(hl:o.rules.length<=4294967296):au T 93 [jC o,.int ask] (.int (kp o.rules.length (m9 o ask))):=by
 refine zyv 119 avZ ?_;simp[VT];refine .scan o.rules.length (λk=>m9 o ask k=false) (λk=>[.int 0,.int k]) (λ_=>[]) ?_ (λk hk hj ho=>?_) (λk hk hj ho=>?_) (λhj=>?_)
 .simp
 .have hw:=br hk hl;simp[m9,hk] at ho;simp[T3,Gz,hk,hw,ho]
 .have he:=FB hk (by simpa using ho) hj;simp[m9,hk] at ho;simp[T3,Gz,hk,he,ho]
 .have he:=BX hj;simp[T3,Gz,he]
def as0 (o:Order)(ask:Int)(ho:o.OK)(hl:o.rules.length<=4294967296):au T 91 [jC o,.int ask] (.int (findF o ask).2):=by
 refine zyv 118 av1 ?_;simp[VV,findF];refine⟨_,TA ask,?_⟩;have ht:(fP ask).2=decide (0<=ask/\ask<22):=by
  unfold fP;by_cases h:ask<0\/22<=ask
  .rw[if_pos h];have:¬(0<=ask/\ask<22):=by omega
   simp[this]
  .rw[if_neg h];have:0<=ask/\ask<22:=by omega
   split<;>simp[this]
 by_cases h:0<=ask/\ask<22
 .simp[h,ht];refine⟨_,ae3 o ask hl,?_⟩;rcases uC o.rules.length (m9 o ask) with⟨h1,h2⟩|⟨m,hm,h1,h2,h3⟩
  .rw[h1];simp
  .rw[h1];have yD:¬((m:Int)<0):=by omega
   have Fl:o.rules[m].term.OK:=M4 ho hm;simp[hm,xb,yD];refine⟨_,aeW _ Fl,_,asZ ask,?_⟩;by_cases h4:(kF o.rules[m].term).2=0<;>by_cases h5:(kF o.rules[m].term).1=(fP ask).1<;>simp[h4,h5]
 .simp[h,ht]
def asY (o:Order)(ask:Int)(cs:List Cell)(ho:o.OK)(hl:o.rules.length<=4294967296):au T 68 [jC o,.int ask,cells cs] (.tup [cu (pk o ask cs).1,.int (pk o ask cs).2]):=by
 refine zyv 117 avW ?_;simp[VQ];refine⟨_,as0 o ask ho hl,?_⟩;by_cases h:(findF o ask).2=0
 .have hq:(fP ask).2=true:=by
   unfold findF at h;cases e:(fP ask).2
   .rw[if_pos e] at h;cases h
   .rfl
  have hr:0<=ask/\ask<22:=by
   unfold fP at hq;split at hq
   .cases hq
   .omega
  have hix:∃m:Nat,m<o.rules.length/\kp o.rules.length (m9 o ask)=m/\(findF o ask).1=xb o m:=by
   unfold findF at h ⊢;rw[if_neg (by rw[hq];decide)] at h ⊢;split at h
   .cases h
   rename_i h1;rw[if_neg h1];split at h
   .cases h
   rename_i h2;rw[if_neg h2];rcases uC o.rules.length (m9 o ask) with⟨g1,g2⟩|⟨m,hm,g1,g2,g3⟩
   .exact absurd (by rw[g1];decide) h1
   .exact⟨m,hm,g1,by rw[g1]⟩
  obtain⟨m,hm,g1,g2⟩:=hix;have Fl:o.rules[m].term.OK:=M4 ho hm;have pz:(findF o ask).1=o.rules[m].term:=by rw[g2];simp[xb,hm]
  simp[h,pk,pz];refine⟨_,ae3 o ask hl,?_⟩;rw[g1];simp[hm];refine⟨_,asR _ cs Fl,?_⟩;generalize tW cs o.rules[m].term=c;have mO:=aeQ ask hr;have bj:(fP ask).1=0↔hasB q7 ask=true:=by
   unfold fP;rw[if_neg (by omega)];split
   .rename_i e;simp[e]
   .rename_i e;simp[e]
  obtain⟨kn,n⟩:=c;cases hb:hasB q7 ask
  .have eA:¬(fP ask).1=0:=λe=>by rw[bj.1 e] at hb;cases hb
   rw[hb] at mO;cases kn<;>simp[eA]
   all_goals first|rfl|(refine⟨_,mO,?_⟩;rfl)|(refine⟨_,mO,?_⟩;simp;done)|(refine⟨_,mO,?_⟩;simp;rfl)
  .have eA:=bj.2 hb;rw[hb] at mO;cases kn
   .simp[eA]
    first|rfl|(refine⟨_,mO,?_⟩;rfl)|(refine⟨_,mO,?_⟩;simp;done)|(refine⟨_,mO,?_⟩;simp;rfl)
   .by_cases h2:n<0
    .have:min (max n 0) 20000=0:=by omega
     simp[eA,h2,this]
     first|rfl|(refine⟨_,mO,?_⟩;rfl)|(refine⟨_,mO,?_⟩;simp;done)|(refine⟨_,mO,?_⟩;simp;rfl)
    .by_cases h3:20000<n
     .have:min (max n 0) 20000=20000:=by omega
      simp[eA,h2,h3,this]
      first|rfl|(refine⟨_,mO,?_⟩;rfl)|(refine⟨_,mO,?_⟩;simp;done)|(refine⟨_,mO,?_⟩;simp;rfl)
     .have:min (max n 0) 20000=n:=by omega
      simp[eA,h2,h3,this];exact⟨⟨_,mO⟩,rfl⟩
 .simp[h,pk]
  try rfl
def apn {r:Realm}{a q:Int}{l:List Int}(h:(dh r a q l).1≠[]):j6 r a q l=true/\l.getD 0 0=a:=by
 unfold dh at h;split at h
 .assumption
 .exact absurd rfl h
def ae5 (r:Realm)(hr:Right r)(hc:ic r=0)(iS:r.cities.length<=100000)(av q:Int)(c:Case)(hf:FewS c.file):au T 31 [bB r,.int av,.int q,cq c] (D3 (oc r av q c)):=by
 have hP:=as5 r hc iS av c hf;have hQ:=TA q;refine zyv 101 av6 ?_;simp[V0];refine⟨_,hP,?_⟩;by_cases hp:eP r av c=[]
 .rw[abA (.inl hp),hp];simp
  try rfl
 have dO:¬((eP r av c).length:Int)=0:=by
  have:=zO.mpr hp;omega
 by_cases hq:q<0\/22<=q
 .rw[abA (.inr hq)];have:¬(0<=q/\q<22):=by omega
  simp[hp,dO];refine⟨_,hQ,?_⟩;simp[this]
  try rfl
 have hj:=apg hr hc hp hq;have hqq:0<=q/\q<22:=by omega
 obtain⟨KF,BB⟩:=apn hj.path;have hL:=as2 r hr.by_ (arw hc) hr.len av q (eP r av c) KF hqq BB;have hC:=ae6 r iS c hf;have hlen:=abG r av q (eP r av c);have QD:=Ll hr (a:=av) (q:=q) (l:=eP r av c) (by have:=(Bd KF).2.1;omega);have BI:=hr.len;rw[hj.ask];have aaR:=hj.path;simp[hp,dO];refine⟨_,hQ,?_⟩;simp[hqq];refine⟨_,hL,?_⟩;generalize dh r av q (eP r av c)=L at*;obtain⟨path,err⟩:=L;simp only at*;have v9:=zO.mpr aaR;have BK:¬(path.length:Int)=0:=by omega
 by_cases he:err=0
 .obtain⟨h1,h2⟩:=QD he;have yR:i64.wrap ((path.length:Int)-1)=(path.length:Int)-1:=bu (by omega);have yA:((path.length:Int)-1).toNat=path.length-1:=by omega
  have ah:path.length-1<path.length:=by omega
  have jf:cE path=path[path.length-1]:=by simp[cE,ah]
  have h3:(cE path).toNat<r.orders.length:=by omega
  have h4:jR r (cE path)=r.orders[(cE path).toNat]:=by simp[jR,h3]
  obtain⟨az,hrl⟩:=hr.ok _ (cY h3);simp[he,aaR,yR,yA,ah,<-jf,h2,h3,h4];refine⟨by omega,_,hC,_,asY _ q _ az (by omega),?_⟩;simp
  try rfl
 .simp[he]
  try rfl
def brk (c:Chain)(s:Sign):Bool:= !c.bearer&&s.who !=c.holder
set_option maxRecDepth 10000 in
def asM (f:File)(h1:f.signs.length<=100000)(h2:f.alters.length<=100000)(h3:f.acts.length<=100000)(h4:f.facts.length<=100000):au T 15 [cr f,cr f] (.bool true):=by
 refine zyv 136 avy ?_;simp[VC];refine aP.scan f.signs.length (λ_=>True) (λk=>[.bool false,.int k]) (λ_=>[]) ?_ (λk hk hj ho=>?_) (λk hk hj ho=>absurd trivial ho) (λhj=>?_)
 .simp
 .have hw:=br hk (by omega);simp[afp,MD,hk,hw]
 simp[afp,MD];refine aP.scan f.alters.length (λ_=>True) (λk=>[.bool false,.int k]) (λ_=>[]) ?_ (λk hk hj ho=>?_) (λk hk hj ho=>absurd trivial ho) (λhj=>?_)
 .simp
 .have hw:=br hk (by omega);simp[afq,ME,hk,hw]
 simp[afq,ME];refine aP.scan f.acts.length (λ_=>True) (λk=>[.bool false,.int k]) (λ_=>[]) ?_ (λk hk hj ho=>?_) (λk hk hj ho=>absurd trivial ho) (λhj=>?_)
 .simp
 .have hw:=br hk (by omega);simp[afr,MF,hk,hw]
 simp[afr,MF];refine aP.scan f.facts.length (λ_=>True) (λk=>[.bool false,.int k]) (λ_=>[]) ?_ (λk hk hj ho=>?_) (λk hk hj ho=>absurd trivial ho) (λhj=>?_)
 .simp
 .have hw:=br hk (by omega);simp[afs,MG,hk,hw]
 simp[afs,MG]
end Rm
