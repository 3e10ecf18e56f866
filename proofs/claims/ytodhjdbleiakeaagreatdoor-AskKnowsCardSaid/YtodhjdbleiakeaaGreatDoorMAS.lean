/-
  AskKnows, walked.
-/
import Derived.Test.YtodhjdbleiakeaaGreatDoorMAR
set_option linter.unusedSimpArgs false
set_option linter.unusedVariables false
namespace Rm
open Go Go.Proofs Cx
@[simp] theorem aLJ (a0 a1 a2 a3 a4 a5 a6 a7 a8 a9 lu lx ly lz lC nj nk nl oH Nj Nk Nl Nm Nn b0 b1 b2 b3 b4 b5 b6 b7 b8 b9 Nu Nv Nw Nx Ny Nz NA NB FM:D):(dU [a0,a1,a2,a3,a4,a5,a6,a7,a8,a9,lu,lx,ly,lz,lC,nj,nk,nl,oH,Nj,Nk,Nl,Nm,Nn] 0 [b0,b1,b2,b3,b4,b5,b6,b7,b8,b9,Nu,Nv,Nw,Nx,Ny,Nz,NA,NB,FM])[18]?.getD D.none=FM:=_root_.id rfl
theorem ajK (f:File)(l:List Fact)(hf:f.facts.length≤1000)(hl:l.length≤1000):ao T adn [cI f,facts l] (cI (iz f l)):=by
 refine .of_tree rfl akA aC8 ?_;simp[Vp];refine aY.forRounds l.length (fun k=>[.int k]) (fun k=>[cI (iz f (l.take k))]) ?_ (fun k hk=>?_) ?_
 ·simp;rfl
 ·have hw:=bx hk (by omega);have hlen:=X3 f (l.take k);rw[dW] at hlen;have rL:(iz f (l.take k)).signs=f.signs:=(No f (l.take k)).same.signs;rw[ajJ f l hk];generalize iz f (l.take k)=g at*;simp[ag5,LW,hk,hw];generalize l[k]=x;have hm:((((0≤x.kind∧x.kind<5)∧0≤x.at_)∧x.at_<(g.signs.length:Int))∧0≤x.n)∧x.n≤1↔lS g x=true:=by
   simp[lS,and_assoc]
  by_cases h:lS g x=true
  ·rw[if_pos (hm.2 h),if_pos h];refine⟨_,ajD g x (by omega),?_⟩;simp
  ·rw[if_neg (fun e=>h (hm.1 e)),if_neg h]
 ·simp[ag5,LW]
def Xb:PT:=
 (.call ⟨[],[]⟩ [(108,true),(104,false)] 112 48 [(au 5 di)] (.ite (.pick DW pT (.pick DY (aU agT DZ) pF)) (.ret pF) (.ret (.pick (.pick bu (.pick (pc di 0) pT (aq (pc di 1) (pi 0))) pF) (.pick (aq (pc di 4) (pi 0)) pT (.an (.cb .eql (pc (.mk [(pc di 0),(pc di 1)]) 0) pF) (.an (aq (pc (.mk [(pc di 0),(pc di 1)]) 1) (pi 0)) pT))) pF))))
def Xd:PT:=
 (.call ⟨[(108,(aU DX (pi (-1))))],[]⟩ [(108,true),(104,false)] 110 48 [(au 5 nM)] Xb)
def Xe:PT:=
 (.call ⟨[(104,(.pick LU (aU nW agQ) pF))],[]⟩ [(104,false)] 106 48 [(au 5 di)] Xd)
def Xf:PT:=
 (.call ⟨[],[]⟩ [(97,true)] 101 46 [(au 5 di)] Xe)
def Xg:PT:=
 (.call ⟨[(97,(aU TE (pi 2)))],[]⟩ [(97,true)] 99 46 [(au 5 nM)] Xf)
def aik:PT:=
 (.call ⟨[],[]⟩ [] 95 46 [(au 5 di)] Xg)
def ail:PT:=
 (.call ⟨[(74,(.pick (aU (pc di 2) (pc (.setc (.con (.agg [(.bool false),(.int 0),(.int 0),(.list []),(.int 0)])) 0 kX) 2)) pT (aU (pc di 4) (pc (.setc (.con (.agg [(.bool false),(.int 0),(.int 0),(.list []),(.int 0)])) 0 kX) 4))))],[(14,(.setc (.con (.agg [(.bool false),(.int 0),(.int 0),(.list []),(.int 0)])) 0 kX))]⟩ [(74,false)] 79 34 [(pc di 3),(pc (.setc (.con (.agg [(.bool false),(.int 0),(.int 0),(.list []),(.int 0)])) 0 kX) 3)] (.ite (.pick (.pick wB pT (.nt LR)) pT (.pick (pc di 0) (.nt (.an (.cb .eql (pc (.mk [(pc di 0),(pc di 1)]) 0) (pc (.mk [(pc nM 0),(pc nM 1)]) 0)) (.an (aq (pc (.mk [(pc di 0),(pc di 1)]) 1) (pc (.mk [(pc nM 0),(pc nM 1)]) 1)) pT))) pF)) (.ret pF) aik))
def aim:PT:=
 (.call ⟨[],[(13,(.setc (.con (.agg [(.bool false),(.int 0),(.int 0),(.list []),(.int 0)])) 0 lZ))]⟩ [] 61 28 [(au 8 o5),r1,r2,(au 24 tN)] ail)
def ain:PT:=
 (.call ⟨[],[]⟩ [] 56 28 [(au 8 o5),r1,r2,(au 24 o8)] aim)
def aif:PT:=
 (.call ⟨[(45,(bJ (.llen (pc (.setc tN 0 fE) 18)) (pi 200)))],[(12,(.setc tN 0 fE))]⟩ [(45,true)] 49 42 [(au 8 o5),(au 19 (.setc tN 0 fE))] (.ite (.pick nV (aU kV (pi 0)) pF) (.ret pF) ain))
def aih:PT:=
 (.call ⟨[],[(12,(.setc (.con (.agg [(.int 0),(.int 0),(.int 0),(.int 0),(.int 0),(.int 0),(.int 0),(.int 0),(.int 0),(.int 0),(.int 0),(.int 0),(.int 0),(.int 0),(.int 0),(.list []),(.list []),(.list []),(.list []),(.int 0),(.int 0),(.int 0),(.int 0),(.int 0)])) 0 (au 24 o8)))]⟩ [] 38 47 [(au 19 o8),r4] aif)
def Xc:PT:=
 (.call ⟨[(21,(.nt gj))],[]⟩ [(21,false)] 25 42 [(au 8 o5),(au 19 o8)] (.ite (.pick (.pick kq pT (aU gR (pi 0))) pT (be (.llen r4) (pi 30))) (.ret bu) aih))
def aii:PT:=
 (.call ⟨[(11,gP)],[]⟩ [] 19 27 [(au 8 o5),(au 19 o8)] Xc)
def aij:PT:=
 (.call ⟨[],[(8,(.mk [r3])),(5,(.mk [r0]))]⟩ [] 15 26 [] aii)
theorem aC5:Vn=aij:=rfl
theorem ajc (r:Realm)(hr:r.OK)(ay q:Int)(c:Case)(Hw:c.OK)(more:List Fact):ao T adl [bn r,.int ay,.int q,dO c,facts more] (.bool true):=by
 refine .of_tree rfl aky aC6 ?_;rw[aC5];simp[aij];refine⟨_,aB3,?_⟩;simp[aii];refine⟨_,al6 r hr c.file,?_⟩;cases hg:xM r c.file
 ·simp[Xc]
 have G:=as8 hr hg;have hs:Small r:=G.rightD.small;obtain⟨d,hd,e,rfl,he⟩:=agc r hs c.file Hw.1;simp[Xc];refine⟨_,hd,?_⟩;by_cases e0:e=0
 case neg=>simp[e0]
 have hP:=he.1 e0;by_cases hl:(30:Int)<more.length
 ·simp[e0];intro h;omega
 have vl:more.length≤30:=by omega
 simp[e0];intro _;have jL:c.file.facts.length≤200:=hP.full.2.2;have atJ:=ajK c.file more (by omega) (by omega);have PQ:=No c.file more;have hlen:=X3 c.file more;have hPg:=hP.added more;have hVg:=X4 ((OP c.file).1 hP.facts) more;generalize iz c.file more=g at*;have ec:=PQ.same;have auq:FewS g:=⟨by rw[ec.signs];exact G.few.signs,by rw[ec.alters];exact G.few.alters,by rw[ec.acts];exact G.few.acts,by omega⟩
 have hA:=FH r G.right ay q c G.few;have hB:=FH r G.right ay q (fG c g) auq;have hm:=aj6 r ay q (c:=c) ec ⟨fun k=>(PQ.at_ c.day).le k _,fun k=>(PQ.at_ c.day).le k _⟩;have ho:=aj7 r ay q (c:=c) ec;have eL:=aj8 r ay q c;have vm:(dM r ay q c).path.length≤4000000:=by
  have:(dM r ay q c).path=(df r ay q c).1.path:=by unfold dM;split<;>rfl
  rw[this];unfold df;split
  ·simp[yC]
  split
  ·simp[yC]
  split
  ·simp[yC]
  ·have h1:=acd r ay q (gi r ay (cQ c));have h2:=G.right.len;show(ib r ay q (gi r ay (cQ c))).1.length≤_;omega
 generalize dM r ay q c=a at*;generalize dM r ay q (fG c g)=b at*;obtain⟨hc,HN⟩:=hm;obtain⟨pk,abx⟩:=ho;have qC:=Tw a.path vm;simp[aih];refine⟨_,atJ,?_⟩;have j6:∃d,(g.facts.length≤200→ao T RD [bn r,cI g] d∧d=.int 0):=by
  by_cases u9:g.facts.length≤200
  ·have hPG:=hPg u9;have hOK:g.OK:=by
        obtain⟨f1,f2,f3,f4,f5⟩:=Hw.1;refine⟨by rw[ec.bill];exact f1,by rw[ec.signs];exact f2,by rw[ec.alters];exact f3,by rw[ec.acts];exact f4,by unfold maxLen;omega,fun x hx=>?_⟩;have hsl:=hP.full.1.1;exact(hVg.each x hx).ok (by omega)
   obtain⟨d2,cT,e2,rfl,jn⟩:=agc r hs g hOK;exact⟨_,fun _=>⟨cT,by rw[jn.2 hPG]⟩⟩
  ·exact⟨.none,fun h=>absurd h u9⟩
 obtain⟨d2,cT⟩:=j6;simp[aif];have fin:∀ρ:Env,True:=fun _=>trivial;by_cases u9:(g.facts.length:Int)≤200
 case' pos=>
  obtain⟨cT,rfl⟩:=cT (by omega);simp[u9];refine⟨_,cT,?_⟩;simp[u9]
 case' neg=>
  simp[u9]
 all_goals
  simp[ain,u9];refine⟨_,hA,?_⟩;simp[aim];refine⟨_,hB,?_⟩;simp[ail,pk,HN,abx];refine⟨_,qC,?_⟩;simp[pk,HN,abx];refine⟨fun hk=>by rw[hc hk];exact⟨rfl,rfl⟩,?_⟩;have t1:=Am a;have t2:=Am b;have n1:=FI a;have n2:=FI b;have Qu:=aEO hc HN;have cO:=azy hc HN;obtain⟨kN,vB⟩:=eL;generalize sv a=ta at*;generalize sv b=tb at*;generalize ki a=na at*;generalize ki b=nb at*;simp[aik];refine⟨_,t1,?_⟩;by_cases ht:ta=2
  case' pos=>
   simp[Xg,ht];simp[Xf,ht];simp[Xe,ht];refine⟨_,n1,?_⟩
  case' neg=>
   have Qr:=Qu ht;subst Qr;simp[Xg,ht];refine⟨_,t2,?_⟩;simp[Xf,ht];refine⟨_,t1,?_⟩;simp[Xe,ht];refine⟨_,n1,?_⟩
  all_goals
   by_cases hn:na=-1
   case' pos=>
        simp[Xd,ht,hn];simp[Xb,ht,hn]
   case' neg=>
        have da:=cO hn;subst da;simp[Xd,ht,hn];refine⟨_,n2,?_⟩;simp[Xb,ht,hn];refine⟨_,n1,?_⟩;simp[ht,hn]
  all_goals
   rw[if_pos kN];split
   ·rfl
   ·rename_i aJ;rw[vB aJ];rfl
end Rm
