/-
  Shared texts of this claim.
-/
import Derived.Test.YtefchokhgdmamaaGreatDoorUAQ
set_option linter.unusedSimpArgs false
set_option linter.unusedVariables false
namespace Rm
open Go Go.Proofs Cx
def fT:Nat→Nat→List (List Int)
 |0,_=>[[]]
 |s+1,k=>(List.range (5-k)).flatMap fun i=>(fT s (k+i+1)).map fun l=>((k+i:Nat):Int)::l
theorem VU {α β:Type}(f:α→List β)(n:Nat)(h:∀a,(f a).length≤n)(l:List α):(l.flatMap f).length≤l.length*n:=by
 induction l with
 |nil=>simp
 |cons a l ih=>
  rw[rV,jy,pv,Nat.succ_mul];have:=h a;omega
theorem IT:∀(s k:Nat),(fT s k).length≤5^s
 |0,_=>by simp[fT]
 |s+1,k=>by
  have:=VU (fun i=>(fT s (k+i+1)).map fun l=>((k+i:Nat):Int)::l) (5^s) (fun i=>by rw[fL];exact IT s _) (List.range (5-k));rw[FL] at this;show((List.range (5-k)).flatMap _).length≤_;refine cL this ?_;rw[Nat.pow_succ,K7 (5^s)];exact nq _ (by omega)
theorem IS:∀(s k:Nat),∀l,l∈fT s k→l.length=s
 |0,_,l,h=>by simp[fT] at h;simp[h]
 |s+1,k,l,h=>by
  obtain⟨i,_,h⟩:=jb.1 h;obtain⟨l',h',rfl⟩:=ec.1 h;simp[IS s _ l' h']
theorem OS:∀(s:Nat),s≤5→∀(k:Nat),k≤6→av T 27 [.int s,.int k] (.list ((fT s k).map ints))
 |0,_,k,_=>by
  refine .of_tree rfl UF aci ?_;simp[KB,fT]
  try rfl
 |s+1,hs,k,hk=>by
  have ih:=OS s (by omega);refine .of_tree rfl UF aci ?_;have h0:¬((s:Int)+1=0):=by omega
  simp[KB,h0]
  have hF:fT (s+1) k=(List.range (5-k)).flatMap fun i=>(fT s (k+i+1)).map fun l=>((k:Int)+i)::l:=by
   show(List.range (5-k)).flatMap _=_
   congr 1
  have hlen:∀i,i≤5-k→((List.range i).flatMap fun i=>(fT s (k+i+1)).map fun l=>((k:Int)+i)::l).length≤5*5^s:=fun i hi=>by
   have:=VU (fun i:Nat=>(fT s (k+i+1)).map fun l=>((k:Int)+i)::l) (5^s) (fun i=>by rw[fL];exact IT s _) (List.range i);rw[FL] at this;exact cL this (nq _ (by omega))
  have h5:5^s≤3125:=cL (Uh (by omega) (show s≤5 by omega)) (by decide);refine aU.forRounds (5-k) (fun i=>[.none,.int ((k:Int)+i)]) (fun i=>[.list (((List.range i).flatMap fun i=>(fT s (k+i+1)).map fun l=>((k:Int)+i)::l).map ints)]) ?_ (fun i hi=>?_) ?_
  ·simp
  ·have ae:(k:Int)+i<5:=by omega
   have fS:IntKind.i64.wrap (s:Int)=s:=cn (by omega);have fl:IntKind.i64.wrap ((k:Int)+i+1)=((k+i+1:Nat):Int):=by rw[cn (by omega)];omega
   have hr:=ih (k+i+1) (by omega)
   have hR:((List.range (i+1)).flatMap fun i=>(fT s (k+i+1)).map fun l=>((k:Int)+i)::l)=((List.range i).flatMap fun i=>(fT s (k+i+1)).map fun l=>((k:Int)+i)::l)++(fT s (k+i+1)).map fun l=>((k:Int)+i)::l:=by
    rw[Ud,T5];simp
   have hP:=hlen i (by omega);have hPi:=hlen (i+1) (by omega);rw[hR] at hPi;have hXl:=IT s (k+i+1);have hXe:=IS s (k+i+1);simp[abb,JR,ae,fS,fl];rw[hR];generalize ((List.range i).flatMap fun i=>(fT s (k+i+1)).map fun l=>((k:Int)+i)::l)=P at*;generalize fT s (k+i+1)=X at*;refine⟨_,hr,?_⟩;refine aU.forRounds X.length (fun j=>[.none,.int j]) (fun j=>[.list ((P++(X.take j).map fun l=>((k:Int)+i)::l).map ints)]) ?_ (fun j hj=>?_) ?_
   ·simp
   ·have DE:=bJ hj (by omega);have jj:=hXe X[j] (dJ hj);have IB:X.take (j+1)=X.take j++[X[j]]:=by simp
    simp[aba,JQ,hj,DE];refine⟨by omega,by omega,?_⟩;rw[List.take_add_one,cK,bu hj];rfl
   ·simp[aba,JQ];omega
  ·have ae:¬((k:Int)+(5-k:Nat)<5):=by omega
   simp[abb,JR,ae];rw[hF]
def AW (c:Case)(k at_ n:Int):Case:={c with file:=dH c.file (fx k at_ n)}
def eQ (c:Case)(k:Int):Int:=if k=3∨k=4 then max 0 c.holder else c.sign
theorem apa (c:Case)(k:Int):av T 61 [cg c,.int k] (.int (eQ c k)):=by
 refine .of_tree rfl (lA 50 (by kernel_rfl)) apB ?_;unfold eQ;by_cases h1:k=3<;>by_cases h2:k=4<;>simp[RM,h1,h2]
 all_goals
  split
  ·rw[Int.max_eq_right (by omega)]
  ·rw[Int.max_eq_left (by omega)]
def iJ (n:Nat)(v:Int)(i:Nat):Int:=cT .and .i64 (cT .shr .i64 v ((n:Int)-1-i)) 1
def jr (c:Case)(l:List Int)(v:Int):Nat→Case
 |0=>c
 |i+1=>AW (jr c l v i) (l.getD i 0) (eQ c (l.getD i 0)) (iJ l.length v i)
def gm (c:Case)(l:List Int)(v:Int):Case:=jr c l v l.length
theorem arC {l:List Fact}(h:l.Pairwise ct)(x:Fact):(jV l x).Pairwise ct:=by
 unfold jV;rw[ja,FM];refine⟨h.filter _,?_,fun a ha b hb=>?_⟩
 ·rw[Ue,vO];exact⟨fun b hb=>(pM x b).1 (cS.1 hb).2,h.filter _⟩
 ·have h1:=(xd x a).1 (cS.1 ha).2;rcases cR.1 hb with hb|hb
  ·rw[lL.1 hb];exact h1
  ·exact FY h1 ((pM x b).1 (cS.1 hb).2)
structure SortF (f:File) (n:Nat):Prop where
 sorted:f.facts.Pairwise ct
 len:f.facts.length≤n
theorem SortF.set {f:File}{n:Nat}(h:SortF f n)(x:Fact):SortF (dH f x) (n+1):=
 ⟨arC h.sorted x,cL (arB f.facts x) (Nat.succ_le_succ h.len)⟩
theorem Ki {c:Case}{n:Nat}(h:SortF c.file n)(l:List Int)(v:Int):∀i,SortF (jr c l v i).file (n+i)
 |0=>h
 |i+1=>(Ki h l v i).set _
theorem Ff (c:Case)(l:List Int)(v:Int):∀i,(jr c l v i).sign=c.sign∧(jr c l v i).holder=c.holder∧(jr c l v i).defence=c.defence∧(jr c l v i).due=c.due∧(jr c l v i).day=c.day∧
 (jr c l v i).file.bill=c.file.bill∧(jr c l v i).file.signs=c.file.signs∧(jr c l v i).file.alters=c.file.alters∧(jr c l v i).file.acts=c.file.acts
 |0=>⟨rfl,rfl,rfl,rfl,rfl,rfl,rfl,rfl,rfl⟩
 |i+1=>Ff c l v i
theorem aoX (c:Case)(l:List Int)(v:Int)(hl:l.length≤60)(hs:SortF c.file 1000):av T 28 [cg c,ints l,.int v] (cg (gm c l v)):=by
 refine .of_tree rfl (lA 49 (by kernel_rfl)) apA ?_;simp[RL];refine aU.forRounds l.length (fun i=>[.int i]) (fun i=>[cg (jr c l v i)]) ?_ (fun i hi=>?_) ?_
 ·simp[jr]
 ·have hw:=bJ hi (by omega);have fS:IntKind.i64.wrap ((l.length:Int)-1)=(l.length:Int)-1:=cn (by omega);have fl:IntKind.i64.wrap ((l.length:Int)-1-i)=(l.length:Int)-1-i:=cn (by omega);have kB:=Kl (Ki hs l v i).sorted (cL (Ki hs l v i).len (by omega)) (l.getD i 0) (eQ c (l.getD i 0)) (iJ l.length v i);have bG:=apa (jr c l v i) (l.getD i 0);have Oa:eQ (jr c l v i) (l.getD i 0)=eQ c (l.getD i 0):=by unfold eQ;rw[(Ff c l v i).1,(Ff c l v i).2.1]
  rw[Oa] at bG;have hg:l.getD i 0=l[i]:=by simp[hi]
  have hN:jr c l v (i+1)=AW (jr c l v i) l[i] (eQ c l[i]) (iJ l.length v i):=by rw[←hg];rfl
  rw[hg] at kB bG;simp[abc,JS,hi,hw,fS,fl];refine⟨_,bG,by omega,_,kB,?_⟩;rw[hN];rfl
 ·simp[abc,JS];rfl
def ng:List (List Int×Int):=(List.range 5).flatMap fun s=>(fT (s+1) 0).flatMap fun l=>(List.range (2^(s+1))).map fun(v:Nat)=>(l,(v:Int))
def gK (r:Realm)(a b q:Int)(c:Case)(x:List Int×Int):Bool:=decide (eF r a b q (gm c x.1 x.2)≠2)&&decide (eF r a b q (gm c x.1 x.2)≠eF r a b q c)
def gn (x:List Int×Int):List Int:=(List.range x.1.length).map fun i=>iJ x.1.length x.2 i
def sv (c:Case):Bool:=decide (0≤c.sign∧c.sign<c.file.signs.length∧-1≤c.holder∧c.holder<c.file.signs.length)
def qB (r:Realm)(a b q:Int)(c:Case):List Int×List Int×Bool:=
 if sv c=true then match ng.find? (gK r a b q c) with|some x=>(x.1,gn x,true)|none=>([],[],false) else([],[],false)
def sC (x:List Int×List Int×Bool):D:=.tup [ints x.1,ints x.2.1,.bool x.2.2]
theorem My {α β:Type}{f:α→List β}{p:β→Bool}{l:List α}:(l.flatMap f).find? p=none↔∀a∈l,(f a).find? p=none:=by
 simp only[nZ,jb];constructor
 ·intro h a ha b hb;exact h b ⟨a,ha,hb⟩
 ·rintro h b ⟨a,ha,hb⟩;exact h a ha b hb
theorem VI {α β:Type}{f:α→List β}{p:β→Bool}{l:List α}{k:Nat}(hk:k<l.length)(h1:∀j (hj:j<k),(f (l[j]'(by omega))).find? p=none){x:β}(h2:(f l[k]).find? p=some x):(l.flatMap f).find? p=some x:=by
 have e:l=l.take k++(l[k]::l.drop (k+1)):=by rw[←TZ hk,tQ]
 rw[e,T5,FI,My.2,Option.none_or,rV,FI,h2]
 ·rfl
 ·intro a ha;obtain⟨j,hj,rfl⟩:=gZ ha;have bA:j<k:=by rw[du] at hj;omega
  rw[T9];exact h1 j bA
def yk (s:Nat)(l:List Int):List (List Int×Int):=(List.range (2^(s+1))).map fun(v:Nat)=>(l,(v:Int))
theorem aro (s:Nat)(l:List Int)(v:Int)(hl:l.length=s+1)(hs:s<5)(ρ:Env)(lQ:ρ.r 15=.int (s+1))(q7:ρ.r 18=.int v)(V7:ρ.r 84=.int l.length)(h85:ρ.r 85=.int 0)(lP:ρ.r 11=.none)(uV:ρ.o 11=.list [])
 {Q:Out→Prop} (hn:∀ρ',ρ'.r 17=ρ.r 17→ρ'.o 11=ints (gn (l,v))→Q (.next ρ')):aU T (Yr og) ρ Q:=by
 have fS:IntKind.i64.wrap ((s:Int)+1-1)=s:=by rw[cn (by omega)];omega
 refine aU.forRounds l.length (fun i=>[.none,.int i]) (fun i=>[ints ((List.range i).map fun i=>iJ l.length v i)]) ?_ (fun i hi=>?_) ?_
 ·simp[lP,h85,uV];rfl
 ·have hw:=bJ hi (by omega);have fl:IntKind.i64.wrap ((s:Int)-i)=s-i:=cn (by omega);have hb:iJ l.length v i=cT .and .i64 (cT .shr .i64 v ((s:Int)-i)) 1:=by unfold iJ;rw[hl];congr 3;omega
  have hR:(List.range (i+1)).map (fun i=>iJ l.length v i)=(List.range i).map (fun i=>iJ l.length v i)++[iJ l.length v i]:=by rw[Ud,oa];rfl
  have mN:IntKind.i64.wrap (s:Int)=s:=cn (by omega);simp[aa9,JP,lQ,q7,V7,hi,hw,fS,mN,fl];rw[hR,hb];refine⟨by omega,by omega,?_⟩;simp[ints]
 ·simp[aa9,JP,V7];refine hn _ ?_ ?_
  ·simp
  ·simp;rfl
theorem UL (r:Realm)(hr:Right r)(a b q:Int)(c:Case)(lX:SortF c.file 900)(wE:∀l v,l.length≤60→FewS (gm c l v).file)(s:Nat)(l:List Int)(hl:l.length=s+1)(hs:s<5)(ρ:Env)
 (h1:ρ.r 1=.int a) (h2:ρ.r 2=.int b) (h3:ρ.r 3=.int q) (lf:ρ.r 10=.list []) (lP:ρ.r 11=.none) (wx:ρ.r 12=.bool false) (sH:ρ.r 14=.int (eF r a b q c)) (lQ:ρ.r 15=.int (s+1)) (sI:ρ.r 17=ints l)
 (MR:ρ.r 63=.int ((2^(s+1):Nat):Int)) (MS:ρ.r 64=.int 0) (o5:ρ.o 5=bK r) (o9:ρ.o 9=cg c) (uV:ρ.o 11=.list []) {Q:Out→Prop}
 (hn:(yk s l).find? (gK r a b q c)=none→∀ρ',ρ'.r 10=.list []→ρ'.r 11=.none→ρ'.r 12=.bool false→ρ'.o 11=.list []→Q (.next ρ'))
 (hy:∀x,(yk s l).find? (gK r a b q c)=some x→Q (.ret (sC (x.1,gn x,true)))):aU T (Ys og) ρ Q:=by
 have hp:2^(s+1)≤32:=cL (Uh (by omega) (show s+1≤5 by omega)) (by decide);generalize hN:2^(s+1)=N at*;have j3:yk s l=(List.range N).map fun(v:Nat)=>(l,(v:Int)):=by unfold yk;rw[hN]
 rw[j3] at hn hy;have WC:∀v:Nat,av T 13 [bK r,.int a,.int b,.int q,cg (gm c l v)] (.int (eF r a b q (gm c l v))):=fun v=>xW r hr a b q _ (wE l v (by omega));have Xv:∀v:Nat,av T 28 [cg c,ints l,.int v] (cg (gm c l v)):=fun v=>aoX c l v (by omega) ⟨lX.sorted,cL lX.len (by omega)⟩;refine aU.scan N (fun v=>gK r a b q c (l,(v:Int))=false) (fun v=>[.list [],.none,.bool false,.int v]) (fun _=>[.list []]) ?_ (fun v hv hj ho=>?_) (fun v hv hj ho=>?_) (fun hj=>?_)
 ·simp[lf,lP,wx,MS,uV]
 ·have hw:=bJ hv (by omega);simp[Qt,En,h1,h2,h3,sH,lQ,sI,MR,o5,o9,hv,hw];refine⟨_,Xv v,_,WC v,?_⟩;intro u1 u2;have e:gK r a b q c (l,(v:Int))=true:=by
   unfold gK;rw[aj,decide_eq_true_eq,decide_eq_true_eq];exact⟨u1,u2⟩
  rw[e] at ho;cases ho
 ·have hw:=bJ hv (by omega);have dV:gK r a b q c (l,(v:Int))=true:=by simpa using ho
  have iO:=dV;unfold gK at iO;rw[aj,decide_eq_true_eq,decide_eq_true_eq] at iO;simp[Qt,En,h1,h2,h3,sH,lQ,sI,MR,o5,o9,hv,hw];refine⟨_,Xv v,_,WC v,?_⟩;refine⟨iO,aro s l v hl hs _ ?_ ?_ ?_ ?_ ?_ ?_ fun ρ' e1 e2=>?_⟩
  ·simp[lQ]
  ·simp
  ·simp[sI]
  ·simp
  ·simp
  ·simp
  ·show Q _;rw[e1,e2];simp[sI];refine hy (l,(v:Int)) ?_;have hk:v<((List.range N).map fun(v:Nat)=>(l,(v:Int))).length:=by simpa using hv
   have:=Cg (p:=gK r a b q c) hk (by simpa using dV) (fun j bA=>by simpa using hj j bA);simpa using this
 ·simp[Qt,En,MR];refine hn ?_ _ ?_ ?_ ?_ ?_
  ·rw[nZ];intro x hx;obtain⟨v,hv,rfl⟩:=ec.1 hx;rw[hj v (cr.1 hv)];decide
  all_goals simp
def xb (s:Nat):List (List Int×Int):=(fT (s+1) 0).flatMap (yk s)
theorem Yd (r:Realm)(hr:Right r)(a b q:Int)(c:Case)(lX:SortF c.file 900)(wE:∀l v,l.length≤60→FewS (gm c l v).file)(s:Nat)(hs:s<5)(ρ:Env)
 (h1:ρ.r 1=.int a) (h2:ρ.r 2=.int b) (h3:ρ.r 3=.int q) (lf:ρ.r 10=.list []) (lP:ρ.r 11=.none) (wx:ρ.r 12=.bool false) (sH:ρ.r 14=.int (eF r a b q c)) (lQ:ρ.r 15=.int (s+1)) (HB:ρ.r 56=.list ((fT (s+1) 0).map ints))
 (Ct:ρ.r 57=.int (fT (s+1) 0).length) (h58:ρ.r 58=.int 0) (o5:ρ.o 5=bK r) (o9:ρ.o 9=cg c) (uV:ρ.o 11=.list []) {Q:Out→Prop}
 (hn:(xb s).find? (gK r a b q c)=none→∀ρ',ρ'.r 10=.list []→ρ'.r 11=.none→ρ'.r 12=.bool false→ρ'.o 11=.list []→Q (.next ρ'))
 (hy:∀x,(xb s).find? (gK r a b q c)=some x→Q (.ret (sC (x.1,gn x,true)))):aU T (Yt og) ρ Q:=by
 have p6:=IT (s+1) 0;have hle:=IS (s+1) 0;have h5:5^(s+1)≤3125:=cL (Uh (by omega) (show s+1≤5 by omega)) (by decide);unfold xb at hn hy;generalize fT (s+1) 0=X at*;have eL:cT .shl .i64 1 ((s:Int)+1)=((2^(s+1):Nat):Int):=by
  have:s=0∨s=1∨s=2∨s=3∨s=4:=by omega
  rcases this with rfl|rfl|rfl|rfl|rfl<;>rfl
 refine aU.scan X.length (fun k=>(yk s (X.getD k [])).find? (gK r a b q c)=none) (fun k=>[.list [],.none,.bool false,.int k]) (fun _=>[.list []]) ?_ (fun k hk hj ho=>?_) (fun k hk hj ho=>?_) (fun hj=>?_)
 ·simp[lf,lP,wx,h58,uV]
 ·have hw:=bJ hk (by omega);have hg:X.getD k []=X[k]:=by simp[hk]
  rw[hg] at ho;have Dh:(0:Int)≤(s:Int)+1:=by omega
  simp[Qu,Eo,h1,h2,h3,sH,lQ,HB,Ct,o5,o9,hk,hw,eL,Dh];refine UL r hr a b q c lX wE s X[k] (hle _ (dJ hk)) hs _ ?_ ?_ ?_ ?_ ?_ ?_ ?_ ?_ ?_ ?_ ?_ ?_ ?_ ?_ (fun _ ρ' e1 e2 e3 e4=>?_) (fun x hx=>?_)
  case refine_15=>simp[e1,e2,e3,e4,hw]
  case refine_16=>rw[ho] at hx;cases hx
  all_goals simp[h1,h2,h3,sH,lQ,HB,Ct,o5,o9,hk,eL]
 ·have hw:=bJ hk (by omega);have hg:X.getD k []=X[k]:=by simp[hk]
  rw[hg] at ho;have Dh:(0:Int)≤(s:Int)+1:=by omega
  simp[Qu,Eo,h1,h2,h3,sH,lQ,HB,Ct,o5,o9,hk,hw,eL,Dh];refine UL r hr a b q c lX wE s X[k] (hle _ (dJ hk)) hs _ ?_ ?_ ?_ ?_ ?_ ?_ ?_ ?_ ?_ ?_ ?_ ?_ ?_ ?_ (fun hx ρ' e1 e2 e3 e4=>absurd hx ho) (fun x hx=>?_)
  case refine_15=>
   show Q _;exact hy x (VI hk (fun j bA=>by have:=hj j bA;simpa [show j<X.length by omega] using this) hx)
  all_goals simp[h1,h2,h3,sH,lQ,HB,Ct,o5,o9,hk,eL]
 ·simp[Qu,Eo,Ct];refine hn (My.2 fun l hl=>?_) _ ?_ ?_ ?_ ?_
  ·obtain⟨j,bA,rfl⟩:=gZ hl;have:=hj j bA;simpa [bA] using this
  all_goals simp
theorem Up (r:Realm)(hr:Right r)(a b q:Int)(c:Case)(hf:FewS c.file)(hl:c.file.facts.length≤900)(hs:c.file.facts.Pairwise ct):av T 10 [bK r,.int a,.int b,.int q,cg c] (sC (qB r a b q c)):=by
 have Ds:SortF c.file 900:=⟨hs,hl⟩
 have wE:∀l v,l.length≤60→FewS (gm c l v).file:=fun l v hl=>by
  have h:=Ff c l v l.length;exact⟨by rw[show(gm c l v).file.signs=_ from h.2.2.2.2.2.2.1];exact hf.1,by rw[show(gm c l v).file.alters=_ from h.2.2.2.2.2.2.2.1];exact hf.2,by rw[show(gm c l v).file.acts=_ from h.2.2.2.2.2.2.2.2];exact hf.3,cL (Ki Ds l v l.length).len (by omega)⟩
 refine .of_tree rfl (lA 4 (by kernel_rfl)) apz ?_;unfold qB;by_cases hc:sv c=true
 case neg=>
  rw[if_neg hc];simp[sv] at hc;simp[KA];rw[if_pos (by omega)];rfl
 rw[if_pos hc];simp[sv] at hc;simp[KA];rw[if_neg (by omega)];refine⟨_,xW r hr a b q c hf,?_⟩;have hT:ng=(List.range 5).flatMap xb:=rfl;rw[hT];generalize hF:((List.range 5).flatMap xb).find? (gK r a b q c)=F;refine aU.scan 5 (fun s=>(xb s).find? (gK r a b q c)=none) (fun s=>[.list [],.none,.bool false,.int ((s:Int)+1)]) (fun _=>[.list []]) ?_ (fun s hs hj ho=>?_) (fun s hs hj ho=>?_) (fun hj=>?_)
 ·simp
 ·have hw:IntKind.i64.wrap ((s:Int)+1+1)=(s:Int)+1+1:=cn (by omega);have ae:(s:Int)+1≤5:=by omega
  have hL:=OS (s+1) (by omega) 0 (by omega);simp[Qv,Ep,ae,hw];refine⟨_,hL,?_⟩;refine Yd r hr a b q c Ds wE s hs _ ?_ ?_ ?_ ?_ ?_ ?_ ?_ ?_ ?_ ?_ ?_ ?_ ?_ ?_ (fun _ ρ' e1 e2 e3 e4=>?_) (fun x hx=>?_)
  case refine_15=>simp[e1,e2,e3,e4,hw]
  case refine_16=>rw[ho] at hx;cases hx
  all_goals simp
 ·have hw:IntKind.i64.wrap ((s:Int)+1+1)=(s:Int)+1+1:=cn (by omega);have ae:(s:Int)+1≤5:=by omega
  have hL:=OS (s+1) (by omega) 0 (by omega);simp[Qv,Ep,ae,hw];refine⟨_,hL,?_⟩;refine Yd r hr a b q c Ds wE s hs _ ?_ ?_ ?_ ?_ ?_ ?_ ?_ ?_ ?_ ?_ ?_ ?_ ?_ ?_ (fun hx ρ' e1 e2 e3 e4=>absurd hx ho) (fun x hx=>?_)
  case refine_15=>
   have:=VI (f:=xb) (l:=List.range 5) (p:=gK r a b q c) (k:=s) (by simpa using hs) (fun j bA=>by simpa using hj j bA) (by simpa using hx);rw[this] at hF;subst hF;rfl
  all_goals simp
 ·simp[Qv,Ep];rw[My.2 fun s hs=>hj s (cr.1 hs)] at hF;subst hF;rfl
end Rm
namespace Rm
open Go Go.Proofs Cx
theorem Um (l m:List Int)(hl:l.length≤1000000):av T 12 [ints l,ints m] (.bool (decide (l=m))):=by
 refine .of_tree rfl (lA 51 (by kernel_rfl)) ap4 ?_;simp[Sd];by_cases hlen:l.length=m.length
 case neg=>
  have:l≠m:=fun e=>hlen (by rw[e]);have h':¬((l.length:Int)=m.length):=by omega
  simp[this,h']
 have h':(l.length:Int)=m.length:=by omega
 simp[h'];refine aU.scan l.length (fun k=>l.getD k 0=m.getD k 0) (fun k=>[.bool false,.int k]) (fun _=>[]) ?_ (fun k hk hj ho=>?_) (fun k hk hj ho=>?_) (fun hj=>?_)
 ·simp
 ·have hw:=bJ hk (by omega);have bx:k<m.length:=by omega
  simp[hk,bx] at ho;simp[QB,Ev,hk,bx,hw,ho,←h']
 ·have bx:k<m.length:=by omega
  simp[hk,bx] at ho;have:l≠m:=fun e=>ho (by subst e;rfl);simp[QB,Ev,hk,bx,ho,this,←h']
 ·have:l=m:=by
   apply T4 hlen;intro k h1 h2;have:=hj k h1;simpa [h1,h2] using this
  simp[QB,Ev,this]
def acS (d:D):Prop:=∃b:Bool,d=.bool b
theorem af4 (f:File):∃b:Bool,av T 26 [dv f] (.bool b):=by
 have h:∃d,av T 26 [dv f] d∧acS d:=by
  refine av.ex_of_tree rfl adx ap6 ?_;simp[Sf];split
  ·exact⟨_,rfl⟩
  ·exact⟨_,rfl⟩
 obtain⟨d,hd,b,rfl⟩:=h;exact⟨b,hd⟩
structure Fine (r:Realm) (c:Case):Prop where
 good:Good r c.file
 check:oh r=0
 paper:PaperOK r c.file
theorem Fine.facts {r:Realm}{c:Case}(h:Fine r c):c.file.facts.Pairwise ct:=((Mv c.file).1 h.paper.facts).sorted
theorem Fine.len {r:Realm}{c:Case}(h:Fine r c):c.file.facts.length≤900:=by have:=h.paper.full;omega
theorem Fine.turn {r:Realm}{c:Case}(h:Fine r c)(a b q:Int):av T 10 [bK r,.int a,.int b,.int q,cg c] (sC (qB r a b q c)):=Up r h.good.right a b q c h.good.few h.len h.facts
theorem Fine.differ {r:Realm}{c:Case}(h:Fine r c)(a b q:Int):av T 13 [bK r,.int a,.int b,.int q,cg c] (.int (eF r a b q c)):=xW r h.good.right a b q c h.good.few
theorem MB (r:Realm)(hr:r.OK)(c:Case)(hc:c.file.OK):∃b:Bool,av T 9 [bK r,cg c] (.bool b)∧(b=true→Fine r c):=by
 have h:∃d,av T 9 [bK r,cg c] d∧∃b:Bool,d=.bool b∧(b=true→Fine r c):=by
  refine av.ex_of_tree rfl adv apN ?_;simp[RX];refine⟨_,anU r c.file hr,?_⟩;cases e1:sE r c.file
  ·simp
  have hs:Small r:=Mw hr (by simp only[sE,aj] at e1;exact e1.1.1);simp;refine⟨_,abu r hs,?_⟩;by_cases e2:oh r=0
  case neg=>simp[e2]
  simp[e2];obtain⟨b,hb⟩:=af4 c.file;refine⟨_,hb,?_⟩;cases b
  ·simp
  obtain⟨d,hd,e,rfl,he⟩:=aap r hs c.file hc;simp;refine⟨_,hd,?_⟩;by_cases e0:e=0
  case neg=>simp[e0]
  simp[e0];have hg:Ht r c.file=true:=by unfold Ht;simp[e1,e2]
  exact⟨ahk hr hg,e2,he.1 e0⟩
 obtain⟨d,h1,b,rfl,h2⟩:=h;exact⟨b,h1,h2⟩
def vE:Realm:=⟨[⟨#[102,114,97,110,99]⟩],[⟨⟨#[76,121,111,110]⟩,0,0,[],[],[]⟩],[⟨0⟩],[⟨⟨#[65]⟩,0,0⟩,⟨⟨#[66]⟩,0,0⟩],
 [⟨⟨#[103,101,110,101,118,97]⟩,false,[],[⟨2,.mk 2 15 []⟩]⟩,⟨⟨#[108,111,110,100,111,110]⟩,false,[],[⟨2,.mk 5 0 [.mk 2 15 [],.mk 2 17 []]⟩]⟩],[],[],[]⟩
def Fv (l:List Fact):File:=⟨⟨0,1,1,100,0,⟨0,0,0⟩,10,0,0,-1,0,0,1⟩,[⟨0,0,0,-1,-1,0,10,0,0⟩],[],[],l⟩
def Ba (l:List Fact):Case:=⟨Fv l,0,-1,-1,-1,20⟩
set_option maxRecDepth 10000 in
theorem acy (l:List Fact):av T 23 [facts l] (.tup [bK vE,cg (Ba l)]):=by
 refine .of_tree rfl (lA 3 (by kernel_rfl)) apM ?_;simp[RW];refine⟨?_,?_⟩
 ·kernel_rfl
 ·first|rfl|kernel_rfl
theorem acz:Right vE:=by
 refine⟨?_,by decide,?_⟩
 ·intro o ho;simp[vE] at ho;rcases ho with rfl|rfl
  ·exact⟨by decide,fun ch h=>by simp at h⟩
  ·exact⟨by decide,fun ch h=>by simp at h⟩
 ·have t0:∀n:Int,(0≤n∧n≤100)→Tm.OK (.mk 2 n []):=fun n h=>Tm.OK.mk 2 n [] (by unfold aW;omega) (by unfold aW;omega) (by decide) (fun t h=>by cases h);intro o ho;simp[vE] at ho;rcases ho with rfl|rfl
  ·refine⟨⟨⟨by decide,fun ch h=>by simp at h⟩,by decide,?_⟩,by decide⟩;intro x hx;simp at hx;subst hx;exact⟨by unfold aW;decide,t0 15 (by omega)⟩
  ·refine⟨⟨⟨by decide,fun ch h=>by simp at h⟩,by decide,?_⟩,by decide⟩;intro x hx;simp at hx;subst hx;refine⟨by unfold aW;decide,Tm.OK.mk 5 0 _ (by unfold aW;decide) (by unfold aW;decide) (by decide) (fun t h=>?_)⟩;simp at h;rcases h with rfl|rfl
   ·exact t0 15 (by omega)
   ·exact t0 17 (by omega)
theorem Rm (l:List Fact)(d:Int)(k v:List Int)(hl:l.length≤10)(hs:l.Pairwise ct)(ht:qB vE 0 1 2 (Ba l)=(k,v,true))(hd:eF vE 0 1 2 (Ba l)=d)(hk:k.length≤10)(hv:v.length≤10):
 av T 22 [facts l,.int d,ints k,ints v] (.bool true):=by
 have hf:FewS (Ba l).file:=⟨by show 1≤1000;omega,by show 0≤1000;omega,by show 0≤1000;omega,by show l.length≤1000;omega⟩
 have h1:=Up vE acz 0 1 2 (Ba l) hf (by show l.length≤900;omega) hs;have h2:=xW vE acz 0 1 2 (Ba l) hf;rw[ht] at h1;rw[hd] at h2;have h3:=Um k k (by omega);have h4:=Um v v (by omega);refine .of_tree rfl (lA 2 (by kernel_rfl)) apP ?_;simp[RZ];refine⟨_,acy l,?_⟩;simp[ff];refine⟨_,h1,?_⟩;simp[sC];refine⟨_,h2,?_⟩;simp;refine⟨_,h3,?_⟩;simpa using h4
set_option maxHeartbeats 2000000 in
theorem Rl:av T 8 [] (.bool true):=by
 have s1:=Rm [] 2 [0] [1] (by decide) (by decide) (by kernel_rfl) (by kernel_rfl) (by decide) (by decide);have s2:=Rm [⟨0,0,1⟩] 0 [0,2] [0,1] (by decide) (by decide) (by kernel_rfl) (by kernel_rfl) (by decide) (by decide);have s3:=Rm [⟨0,0,0⟩,⟨2,0,1⟩] 1 [0] [1] (by decide) (by decide) (by kernel_rfl) (by kernel_rfl) (by decide) (by decide);have s4:=Kl (f:=Fv [⟨1,0,1⟩]) (by decide) (by decide) 0 0 7;rw[show dH (Fv [⟨1,0,1⟩]) (fx 0 0 7)=Fv [⟨0,0,1⟩,⟨1,0,1⟩] by kernel_rfl] at s4;refine .of_tree rfl (lA 1 (by kernel_rfl)) apO ?_;simp[RY];refine⟨_,s1,_,s2,_,s3,_,acy [⟨1,0,1⟩],?_⟩;simp[ff];refine⟨_,s4,?_⟩;simp[ff,Fv]
end Rm
namespace Rm
open Go Go.Proofs Cx
theorem XS:∀(l:List Int) (a b:Int),l.Pairwise (·<·)→(∀x,x∈l→a≤x∧x<b)→a≤b→(l.length:Int)≤b-a
 |[],a,b,_,_,h=>by simp;omega
 |x::l,a,b,hp,hx,h=>by
  rw[vO] at hp;have h0:=hx x (by simp);have:=XS l (x+1) b hp.2 (fun y hy=>⟨by have:=hp.1 y hy;omega,(hx y (by simp[hy])).2⟩) (by omega);simp;omega
theorem FactsOK.len {n:Nat}{l:List Fact}(h:FactsOK n l):l.length≤5*n:=by
 have:=XS (l.map fun x=>x.at_*5+x.kind) 0 (5*n) (by
  rw[List.pairwise_map];refine h.sorted.imp_of_mem fun {x y} hx hy hxy=>?_;have h1:=h.each x hx;have h2:=h.each y hy;unfold qI at h1 h2;simp[wi,aD] at h1 h2;unfold ct at hxy;omega) (fun z hz=>by
  obtain⟨x,hx,rfl⟩:=ec.1 hz;have h1:=h.each x hx;unfold qI at h1;simp[wi,aD] at h1;omega) (by omega)
 simp at this;omega
def xI (x y:Fact):Bool:=decide (y.kind=x.kind)&&decide (y.at_=x.at_)
def DS (n:Nat)(m:Case)(x:Fact):Bool:= !(m.file.facts.any (xI x))&&decide (0≤x.at_)&&decide (x.at_<n)&&decide (0≤x.kind)&&decide (x.kind<5)
def tF (n:Nat)(m:Case)(x:Fact):Case:=if DS n m x=true then AW m x.kind x.at_ x.n else m
def ke (c:Case)(l:List Fact):Case:=l.foldl (tF c.file.signs.length) c
structure KInv (c m:Case):Prop where
 same:m=iv c m.file
 more:MoreF c.file m.file
 facts:FactsOK c.file.signs.length m.file.facts
theorem KInv.step {c m:Case}(h:KInv c m)(x:Fact):KInv c (tF c.file.signs.length m x):=by
 unfold tF;split
 case isFalse=>exact h
 rename_i hm;unfold DS at hm;simp only[aj,decide_eq_true_eq,iy] at hm;obtain⟨⟨⟨⟨hn,a1⟩,a2⟩,a3⟩,a4⟩:=hm;have hv:qI c.file.signs.length (fx x.kind x.at_ x.n):=by
  unfold qI fx;refine⟨by simp[wi];omega,by simp[aD];omega,?_⟩;by_cases e:x.n=0<;>simp[wi,e]
 have hk:(bF m.file (fx x.kind x.at_ x.n).kind (fx x.kind x.at_ x.n).at_).known≠true:=by
  intro hk;unfold bF at hk;cases hf:m.file.facts.find? (eG (fx x.kind x.at_ x.n).kind (fx x.kind x.at_ x.n).at_) with
  |none=>rw[hf] at hk;cases hk
  |some y=>
   have h1:=qL hf;have h2:=x9 hf;have:=List.any_eq_false.1 hn y h1;exact this h2
 have e:dH m.file (fx x.kind x.at_ x.n)=xQ m.file (fx x.kind x.at_ x.n):=by unfold xQ;rw[if_neg hk];rfl
 refine⟨?_,?_,?_⟩
 ·conv=>lhs;rw[h.same]
  rfl
 ·show MoreF c.file (dH m.file _);rw[e];exact h.more.with_ _
 ·exact h.facts.with_ hv
theorem KInv.fold {c:Case}:∀(l:List Fact) {m:Case},KInv c m→KInv c (l.foldl (tF c.file.signs.length) m)
 |[],m,h=>h
 |x::l,m,h=>KInv.fold l (h.step x)
theorem ae0 {x y x' y':Said}(h1:ju x.cell x'.cell)(e1:x'.err=x.err)(h2:ju y.cell y'.cell)(e2:y'.err=y.err)(hd:ua x y≠2):ua x' y'=ua x y:=by
 unfold ua at*;by_cases ho:(x.err=0∧x.cell.known=false)∨(y.err=0∧y.cell.known=false)
 ·rw[if_pos ho] at hd;exact absurd rfl hd
 have kx:x.err=0→x'.cell=x.cell:=fun h=>h1 (by
  cases e:x.cell.known with
  |true=>rfl
  |false=>exact absurd (.inl ⟨h,e⟩) ho)
 have ky:y.err=0→y'.cell=y.cell:=fun h=>h2 (by
  cases e:y.cell.known with
  |true=>rfl
  |false=>exact absurd (.inr ⟨h,e⟩) ho)
 rw[if_neg ho,e1,e2];by_cases a:x.err=0<;>by_cases b:y.err=0
 ·rw[kx a,ky b,if_neg ho]
 ·rw[kx a];simp[a,b] at ho ⊢;rw[ho]
 ·rw[ky b];simp[a,b] at ho ⊢;rw[ho]
 ·simp[a,b]
theorem aeZ (r:Realm)(a b q:Int){c:Case}{g:File}(h:MoreF c.file g)(hd:eF r a b q c≠2):eF r a b q (iv c g)=eF r a b q c:=by
 have hl:KQ (fZ c.file c.day) (fZ g c.day) c.sign (df c):=⟨fun k=>(h.at_ c.day).le k _,fun k=>(h.at_ c.day).le k _⟩
 have m1:=UD r a q h.same hl;have m2:=UD r b q h.same hl;exact ae0 m1.1 m1.2 m2.1 m2.2 hd
theorem acE (r:Realm)(hr:r.OK)(a b q:Int)(c:Case)(hc:c.OK)(l:List Fact):av T 6 [bK r,.int a,.int b,.int q,cg c,facts l] (.bool true):=by
 refine .of_tree rfl (lA 96 (by kernel_rfl)) apJ ?_;simp[RT];obtain⟨e,he,hF⟩:=MB r hr c hc.1;refine⟨_,Rl,_,he,?_⟩;cases e
 ·simp
 have F:=hF rfl;by_cases hl:60<l.length
 ·have:¬(l.length:Int)≤60:=by omega
  simp[this]
 have p5:¬(60:Int)<l.length:=by omega
 simp[hl,p5];have hP:=F.paper;have hI0:KInv c c:=⟨rfl,.rfl' _,(Mv c.file).1 hP.facts⟩
 have hI:∀i,KInv c (ke c (l.take i)):=fun i=>hI0.fold _;have zr:=hI l.length;rw[FQ] at zr
 have hlen:∀i,(ke c (l.take i)).file.facts.length≤200:=fun i=>by
  have:=(hI i).facts.len;have:=hP.full.1.1;omega
 have oJ:∀i,(ke c (l.take i)).file.signs=c.file.signs:=fun i=>(hI i).more.same.signs;refine⟨_,F.differ a b q,?_⟩;refine aU.forRounds l.length (fun i=>[.int i]) (fun i=>[cg (ke c (l.take i))]) ?_ (fun i hi=>?_) ?_
 ·simp[ke]
 ·have hw:=bJ hi (by omega);have kB:=Kl (hI i).facts.sorted (by have:=hlen i;omega) l[i].kind l[i].at_ l[i].n;have Du:ke c (l.take (i+1))=tF c.file.signs.length (ke c (l.take i)) l[i]:=by
   unfold ke;rw[se hi,T8];rfl
  rw[Du];have rh:=hlen i;have eI:=oJ i;generalize ke c (l.take i)=m at*;simp[abe,JU,hi,hw];refine aU.forRounds m.file.facts.length (fun k=>[.bool ((m.file.facts.take k).any (xI l[i])),.int k]) (fun _=>[]) ?_ (fun k hk=>?_) ?_
  ·simp
  ·have hwk:=bJ hk (by omega);have e:(m.file.facts.take (k+1)).any (xI l[i])=((m.file.facts.take k).any (xI l[i])||xI l[i] m.file.facts[k]):=by
        rw[se hk,List.any_append];simp
   rw[e];generalize (m.file.facts.take k).any (xI l[i])=A;unfold xI;cases A<;>by_cases k1:m.file.facts[k].kind=l[i].kind<;>by_cases k2:m.file.facts[k].at_=l[i].at_<;>simp[abd,JT,hi,hk,hwk,k1,k2]
  ·rw[FQ];simp[abd,JT,hi];by_cases hm:DS c.file.signs.length m l[i]=true
   ·have hs:tF c.file.signs.length m l[i]=AW m l[i].kind l[i].at_ l[i].n:=by unfold tF;rw[if_pos hm]
    rw[hs];unfold DS at hm;simp at hm;rw[if_pos (by simpa using hm)];exact⟨_,kB,rfl⟩
   ·have hs:tF c.file.signs.length m l[i]=m:=by unfold tF;rw[if_neg hm]
    rw[hs];unfold DS at hm;rw[if_neg (fun h=>hm (by simpa using h))]
 ·simp[abe,JU];have ai9:(ke c l).file.facts.length≤200:=by have:=hlen l.length;rwa [FQ] at this
  have fh:=zr.more.same;have aiF:FewS (ke c l).file:=⟨by rw[fh.signs];exact F.good.few.signs,by rw[fh.alters];exact F.good.few.alters,by rw[fh.acts];exact F.good.few.acts,by omega⟩
  have e:(ke c l).file={c.file with facts:=(ke c l).file.facts}:=by
   obtain⟨h1,h2,h3,h4⟩:=fh;generalize (ke c l).file=g at*;obtain⟨b,s,a,d,x⟩:=g;simp only at h1 h2 h3 h4;rw[h1,h2,h3,h4]
  have hPG:PaperOK r (ke c l).file:=by
   have hf:=zr.facts;generalize (ke c l).file.facts=X at*;rw[e];exact⟨⟨hP.full.1,hP.full.2.1,ai9⟩,hP.bill,hP.ne,hP.signs,hP.alters,hP.acts,(Mv _).2 hf⟩
  have hOK:(ke c l).file.OK:=by
   obtain⟨f1,f2,f3,f4,f5⟩:=hc.1;refine⟨by rw[fh.bill];exact f1,by rw[fh.signs];exact f2,by rw[fh.alters];exact f3,by rw[fh.acts];exact f4,by unfold maxLen;omega,fun x hx=>?_⟩;have hsl:=hP.full.1.1;exact(zr.facts.each x hx).ok (by omega)
  obtain⟨d2,dM,e2,rfl,j5⟩:=aap r F.good.rightD.small _ hOK;rw[j5.2 hPG] at dM;refine⟨_,dM,rfl,?_⟩;by_cases hd:eF r a b q c=2
  ·simp[hd]
  simp[hd];have hD:=xW r F.good.right a b q (ke c l) aiF;have bZ:=aeZ r a b q zr.more hd;rw[←zr.same] at bZ;rw[bZ] at hD;exact⟨_,hD,rfl⟩
end Rm
