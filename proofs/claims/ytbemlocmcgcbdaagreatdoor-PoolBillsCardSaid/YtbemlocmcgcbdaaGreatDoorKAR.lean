/-
  Shared texts of this claim.
-/
import Derived.Test.YtbemlocmcgcbdaaGreatDoorKAQ
set_option linter.defProp false
set_option linter.unusedSimpArgs false
set_option linter.unusedVariables false
noncomputable section
open Go.IntKind (i64)
namespace Rm
open Go Go.Proofs Cx
def TF (l:List Int):(l.map D.int).map D.i=l:=by rw[nJ];exact xU _
def aAG (l:List Int)(h:l.length<=4294967296):aj T 49 [.none,ints l] (.tup [.tup [],ints (lR l)]):=by
 refine .of_ext (g:=λ_ ds=>D5 ds) rfl ⟨0,λ_ _=>?_⟩;show(if(l.map D.int).length<=4294967296 then some (D.tup [.tup [],ints (lR ((l.map D.int).map D.i))]) else none)=_;rw[TF,if_pos (by simpa using h)]
def anz (l:List Int)(h:l.length<=4294967296):aj T 83 [ints l] (ints (kh l)):=by
 refine .of_ext (g:=λ_ ds=>Ld ds) rfl ⟨0,λ_ _=>?_⟩;show(if(l.map D.int).length<=4294967296 then some (ints (kh ((l.map D.int).map D.i))) else none)=_;rw[TF,if_pos (by simpa using h)]
def anj (l:List Int)(h:l.length<=4294967296):aj T 113 [ints l] (ints l):=by
 refine .of_ext (g:=λ_ ds=>K9 ds) rfl ⟨0,λ_ _=>?_⟩;show(if(l.map D.int).length<=4294967296 then some (D.list (l.map D.int)) else none)=_;rw[if_pos (by simpa using h)];rfl
def I8 (r:Realm)(l:List Effect):Prop:=∀e,e∈l->0<=e.firm/\e.firm<r.firms.length
def sX (r:Realm)(l:List Effect)(s:Int):List Int:=(l.filter λe=>decide (s<=e.sum)).map (mT r)
def aqR (r:Realm)(l:List Effect)(e:Effect)(s:Int):sX r (l++[e]) s=sX r l s++if s<=e.sum then[mT r e] else[]:=by
 unfold sX;rw[PB,py]
 congr 1
 by_cases h:s<=e.sum<;>simp[List.filter,h]
def adA (r:Realm)(l:List Effect)(s:Int):(sX r l s).length<=l.length:=by
 unfold sX;rw[dX];exact kJ _ _
def ady (r:Realm)(l:List Effect)(s:Int)(hf:I8 r l)(hl:l.length<=1000):aj T 44 [aV r,og l,.int s] (ints (dN r l s)):=by
 refine zyw 161 aCq ?_;simp[YY];refine aK.forRounds l.length (λk=>[.none,.int k]) (λk=>[ints (sX r (l.take k) s)]) ?_ (λk hk=>?_) ?_
 .simp[sX,ints]
 .have hw:=bq hk (by omega);obtain⟨f1,f2⟩:=hf _ (bQ hk);rw[iS hk,aqR];have zd:=adA r (l.take k) s;rw[dY] at zd;generalize sX r (l.take k) s=G at*;simp[ajE,Og,hk,hw];generalize l[k]=e at*;have af:e.firm.toNat<r.firms.length:=by omega
  have hg:mT r e=r.firms[e.firm.toNat].group:=by unfold mT;simp[af]
  by_cases h:s<=e.sum
  .simp[h,hg,f1,f2,af];exact⟨by omega,by simp[ints]⟩
  .simp[h]
 .rw[Jk];have zd:=adA r l s;have hG:dN r l s=kh (lR (sX r l s)):=rfl;rw[hG];generalize sX r l s=G at*;have hs:=aAG G (by omega);have hc:=anz (lR G) (by rw[Mu];omega);simp[ajE,Og];refine⟨_,hs,?_⟩;simp;exact hc
def Em (r:Realm)(gs:List Int):Prop:=∀g,g∈gs->0<=g/\g<r.groups.length
def AX (r:Realm):Prop:=∀g,g∈r.groups->0<=g.grade/\g.grade<10
def AX.at {r:Realm}(h:AX r){g:Int}(h0:0<=g)(h1:g<r.groups.length):0<=fC r g/\fC r g<10:=by
 have af:g.toNat<r.groups.length:=by omega
 unfold fC;rw[aH,aY af];exact h _ (bQ af)
def RJ (r:Realm)(g:Int)(h0:0<=g)(h1:g<r.groups.length):dM (aV r) (.int g)=fC r g:=by
 have af:g.toNat<r.groups.length:=by omega
 unfold dM fC;show((((groups r.groups).l.getD g.toNat .none).c 0).i:Int)=_;rw[show(groups r.groups).l=r.groups.map sO from rfl,aH,cq,aY af,aH,aY af];rfl
def qL (r:Realm)(gs:List Int):List Int:=(gO (dM (aV r)) (gs.map D.int)).map D.i
def QP (r:Realm)(gs:List Int):(qL r gs).Perm gs:=by
 have:=(se (dM (aV r)) (gs.map D.int)).map D.i
 rwa [TF] at this
def amG (r:Realm)(gs:List Int):D.list (gO (dM (aV r)) (gs.map D.int))=ints (qL r gs):=by
 unfold qL ints;rw[nJ]
 congr 1
 conv=>lhs;rw[<-xU (gO (dM (aV r)) (gs.map D.int))]
 refine um λx hx=>?_;obtain⟨g,_,rfl⟩:=cd.1 ((se _ _).mem_iff.1 hx);rfl
def amH (r:Realm){gs:List Int}(h:Em r gs):((qL r gs).map (fC r)).Pairwise (·<=·):=by
 unfold qL;rw[nJ,Jh];refine(akh (dM (aV r)) (gs.map D.int)).imp_of_mem λ{a b} ha hb mc=>?_;obtain⟨x,hx,rfl⟩:=cd.1 ((se _ _).mem_iff.1 ha);obtain⟨y,hy,rfl⟩:=cd.1 ((se _ _).mem_iff.1 hb);rw[RJ r x (h x hx).1 (h x hx).2,RJ r y (h y hy).1 (h y hy).2] at mc;exact mc
def aAF (r:Realm)(gs:List Int)(hg:Em r gs)(hr:AX r)(hl:gs.length<=4294967296):aj T 114 [.none,.clo 115 [.ref (aV r)],ints gs] (.tup [.tup [],ints (qL r gs)]):=by
 have aP:(gs.map D.int).all (zX (aV r))=true:=by
  rw[cM];intro x hx;obtain⟨g,rn,rfl⟩:=cd.1 hx;obtain⟨h0,h1⟩:=hg g rn;have h2:=hr.at h0 h1;have e:((aV r).c 2).l.length=r.groups.length:=by show(r.groups.map sO).length=_;simp
  simp only[zX,au,decide_eq_true_eq,RJ r g h0 h1,e];have e2:(D.int g).i=g:=rfl;rw[e2];exact⟨⟨h0,by omega⟩,by omega⟩
 refine .of_ext (g:=λ_ ds=>OU ds) rfl ⟨0,λ_ _=>?_⟩;show(if 115=115/\(gs.map D.int).length<=4294967296/\(gs.map D.int).all (zX (aV r))=true then some (D.tup [.tup [],.list (gO (dM (aV r)) (gs.map D.int))]) else none)=_;rw[if_pos ⟨rfl,by simpa using hl,aP⟩,amG]
def am4 (r:Realm)(gs:List Int)(ps:List Ratio):nO ps (gq ((qL r gs).map (fC r))) 10=sH r gs ps:=by
 unfold sH;have e:gq ((qL r gs).map (fC r))=gq (gs.map (fC r)):=by
  funext g;exact ann ((QP r gs).map _) g
 rw[e]
def adq {ps:List Ratio}(hq:mI ps):∀(l:List Int),(∀x,x∈l->0<=x/\x<10)->∀n:Int,0<=n/\n<=1000000000->0<=l.foldl (λn x=>j0 n (ps.getD x.toNat default)) n/\l.foldl (λn x=>j0 n (ps.getD x.toNat default)) n<=1000000000
 |[],_,n,h=>h
 |x::l,hx,n,h=>by
  have hp:=hq.at (g:=x.toNat) (by have:=hx x (by simp);omega);exact adq hq l (λy hy=>hx y (by simp[hy])) _ ⟨IP hp h.1,Jd (XO hp h.1) h.2⟩
def am5 (r:Realm)(gs:List Int)(q:Quote)(hg:Em r gs)(hr:AX r)(hq:mI q.fails)(hl:gs.length<=1000000):aj T 72 [aV r,ints gs,q7 q] (.int (sH r gs q.fails)):=by
 refine zyw 162 aCp ?_;simp[YX];refine⟨_,anj gs (by omega),?_⟩;refine⟨_,aAF r gs hg hr (by omega),?_⟩;have FL:(qL r gs).length=gs.length:=(QP r gs).length_eq;have CD:Em r (qL r gs):=λg h=>hg g ((QP r gs).mem_iff.1 h)
 have km:=aqz q.fails (amH r hg) (λx hx=>by
  obtain⟨g,rn,rfl⟩:=cd.1 hx;exact hr.at (CD g rn).1 (CD g rn).2)
 rw[am4,aba] at km;rw[<-km];generalize qL r gs=L at*
 have zp:∀k,0<=(L.take k).foldl (λn g=>j0 n (q.fails.getD (fC r g).toNat default)) 1000000000/\(L.take k).foldl (λn g=>j0 n (q.fails.getD (fC r g).toNat default)) 1000000000<=1000000000:=λk=>by
  have:=adq hq ((L.take k).map (fC r)) (λx hx=>by
   obtain⟨g,rn,rfl⟩:=cd.1 hx;exact hr.at (CD g (abh rn)).1 (CD g (abh rn)).2) 1000000000 (by omega)
  rw[aba] at this;exact this
 simp;refine aK.forRounds L.length (λk=>[.int ((L.take k).foldl (λn g=>j0 n (q.fails.getD (fC r g).toNat default)) 1000000000),.int k]) (λ_=>[]) ?_ (λk hk=>?_) ?_
 .simp
 .have hw:=bq hk (by omega);obtain⟨g0,g1⟩:=CD _ (bQ hk);have mX:=hr.at g0 g1;have hn:=zp k;rw[iS hk,sw];simp only[vG,List.foldl_nil];generalize (L.take k).foldl (λn g=>j0 n (q.fails.getD (fC r g).toNat default)) 1000000000=n at*;simp[ajD,Of,hk,hw];generalize L[k]=g at*;have af:g.toNat<r.groups.length:=by omega
  have hga:fC r g=r.groups[g.toNat].grade:=by unfold fC;simp[af]
  have aJr:q.fails.length=10:=hq.1;have aey:(fC r g).toNat<q.fails.length:=by omega
  have hp:=hq.at (g:=(fC r g).toNat) (by omega);have oH:q.fails.getD (fC r g).toNat default=q.fails[(fC r g).toNat]:=by simp[aey]
  rw[oH] at hp;have hZ:(((Option.map sO r.groups[g.toNat]?).getD D.none).c 0).i=fC r g:=by rw[hga];simp[af]
  rw[hZ];simp only[aY aey,lC,lz];generalize q.fails[(fC r g).toNat]=p at*;obtain⟨p1,p2,p3,p4⟩:=hp;have m1:n*p.num<=1000000000*1073741824:=Px (by omega) (by omega) (by omega) (by omega);have m0:0<=n*p.num:=uk hn.1 p3;have hs:=IP ⟨p1,p2,p3,p4⟩ hn.1;have eH:=XO ⟨p1,p2,p3,p4⟩ hn.1;refine⟨⟨g0,g1⟩,⟨mX.1,by omega⟩,?_,?_⟩
  .simp;omega
  .simp;rw[aQ (n:=n*p.num) (by omega),aQ (n:=n*p.num+p.den) (by omega),aQ (n:=n*p.num+p.den-1) (by omega),AZ (by omega)];exact aQ (by unfold j0 at hs eH;omega)
 .simp[ajD,Of]
def Rk (d:D):Effect:=⟨(d.c 0).i,(d.c 1).i,(d.c 2).i,(d.c 3).i,(d.c 4).i,(d.c 5).i,(d.c 6).b⟩
def pD (l:List Effect):List Effect:=(gO gP (l.map jL)).map Rk
def amI (l:List Effect):D.list (gO gP (l.map jL))=og (pD l):=by
 unfold pD og;rw[nJ]
 congr 1
 conv=>lhs;rw[<-xU (gO gP (l.map jL))]
 refine um λx hx=>?_;obtain⟨g,_,rfl⟩:=cd.1 ((se _ _).mem_iff.1 hx);rfl
def amJ (l:List Effect):(pD l).Perm l:=by
 have:=(se gP (l.map jL)).map Rk;rw[nJ] at this;have e:l.map (Rk∘jL)=l:=xU _
 rwa [e] at this
def acb (l:List Effect):(pD l).Pairwise λa b=>a.sum<=b.sum:=by
 unfold pD;rw[Jh];refine(akh gP (l.map jL)).imp_of_mem λ{a b} ha hb mc=>?_;exact mc
def abv (l:List Effect):Prop:=∀e,e∈l->0<=e.sum/\e.sum<=1099511627776
def aAD (l:List Effect)(hs:abv l)(hl:l.length<=4294967296):aj T 70 [.none,.clo 71 [],og l] (.tup [.tup [],og (pD l)]):=by
 have aP:(l.map jL).all Di=true:=by
  rw[cM];intro x hx;obtain⟨e,he,rfl⟩:=cd.1 hx;have:=hs e he;simp only[Di,au,decide_eq_true_eq];exact this
 refine .of_ext (g:=λ_ ds=>OT ds) rfl ⟨0,λ_ _=>?_⟩;show(if 71=71/\(l.map jL).length<=4294967296/\(l.map jL).all Di=true then some (D.tup [.tup [],.list (gO gP (l.map jL))]) else none)=_;rw[if_pos ⟨rfl,by simpa using hl,aP⟩,amI]
def Ps (r:Realm):Prop:=∀f,f∈r.firms->0<=f.group/\f.group<r.groups.length
def aqN {r:Realm}(FX:Ps r){l:List Effect}(hf:I8 r l)(s:Int):Em r (dN r l s):=by
 intro g hg;obtain⟨e,he,_,rfl⟩:=sW.1 hg;obtain⟨h0,h1⟩:=hf e he;have af:e.firm.toNat<r.firms.length:=by omega
 unfold mT;rw[aH,aY af];exact FX _ (bQ af)
def adw (r:Realm)(l:List Effect)(s:Int):(dN r l s).length<=l.length:=by
 unfold dN;refine fb (acG _ _) ?_;rw[Mu,dX];exact kJ _ _
structure PayOK (r:Realm) (l:List Effect):Prop where
 firms:I8 r l
 sums:abv l
 fg:Ps r
 gr:AX r
 len:l.length<=1000
def akJ {r:Realm}{l:List Effect}{ps:List Ratio}(hq:mI ps):pv r l ps<=1099511627776:=by
 unfold pv;have:=XR (f:=eZ r l ps) (c:=1000000000) 1099511627776 λs _ _=>(Ae hq l s).2;generalize gQ (eZ r l ps) 1099511627776=S at*;omega
def uW (r:Realm)(forum:Int):Prop:=0<=forum/\forum<r.orders.length
instance (r:Realm) (forum:Int):Decidable (uW r forum):=by unfold uW;exact inferInstance
def ln (r:Realm)(forum:Int)(f:File)(day:Int)(q:Quote):Int×Int:=
 if lf q≠0\/¬uW r forum then(0,1) else(pv r (dG r forum f day) q.fails,0)
def alr (r:Realm)(hr:Right r)(hd:RightD r)(forum:Int)(f:File)(day:Int)(hf:FewS f)(q:Quote)(tq:q.fails.length<=4294967296)(hp:PayOK r (dG r forum f day)):
 aj T 36 [aV r,.int forum,cr f,.int day,q7 q] (.tup [.int (ln r forum f day q).1,.int (ln r forum f day q).2]):=by
 refine zyw 81 aCn ?_;simp[YW];refine⟨_,akO q tq,?_⟩;by_cases hq:lf q=0
 case neg=>
  simp[hq,ln]
  try exact⟨_,TH r forum⟩
 simp[hq];refine⟨_,TH r forum,?_⟩;by_cases ho:0<=forum/\forum<r.orders.length
 case neg=>
  have:¬uW r forum:=ho;simp[hq,ho,ln,this]
 have jc:uW r forum:=ho;obtain⟨_,_,hQ⟩:=Hn hq;simp[ho];refine⟨_,afR r hr hd forum f day hf,?_⟩;have hwE:ln r forum f day q=(pv r (dG r forum f day) q.fails,0):=by
  unfold ln;rw[if_neg (by simp[hq,jc])]
 rw[hwE];generalize dG r forum f day=l at*;simp;refine⟨_,aAD l hp.sums (by have:=hp.len;omega),?_⟩;have zm:=amJ l;have km:=aEo (r:=r) (l:=l) (l':=pD l) hQ (λe=>zm.mem_iff) (acb l) hp.sums
 have hinv:=λk hk=>RF (pay:=eZ r l q.fails) (λs=>(Ae hQ l s).1) (L:=(pD l).map (·.sum)) (λs x wB h=>aiG r l q.fails s x wB λy hy=>by
  obtain⟨e,he,rfl⟩:=cd.1 hy
  exact h _ (A4 (zm.mem_iff.2 he))) (Jh.2 (acb l)) (λx hx=>by
   obtain⟨e,he,rfl⟩:=cd.1 hx;exact(hp.sums e (zm.mem_iff.1 he)).1) k hk
 have hlen:(pD l).length=l.length:=zm.length_eq;have cV:∀e,e∈pD l↔e∈l:=λe=>zm.mem_iff;have hfo:I8 r (pD l):=λe he=>hp.firms e ((cV e).1 he);rw[<-km];generalize pD l=L at*;have aq3:L.length<=1000:=by have:=hp.len;omega
 refine aK.forRounds L.length (λk=>[.int (iX (eZ r l q.fails) ((L.take k).map (·.sum))).1,.int (iX (eZ r l q.fails) ((L.take k).map (·.sum))).2.1,.int (iX (eZ r l q.fails) ((L.take k).map (·.sum))).2.2,.int k]) (λ_=>[]) ?_ (λk hk=>?_) ?_
 .simp[iX]
 .have hw:=bq hk (by omega);obtain⟨i1,i2,i3⟩:=hinv k (by simp;omega);rw[<-List.map_take] at i1 i2 i3;have aeY:=hp.sums _ ((cV _).1 (bQ hk));rw[iS hk,py];have Gv:iX (eZ r l q.fails) ((L.take k).map (·.sum)++[L[k]].map (·.sum))=xx (eZ r l q.fails) (iX (eZ r l q.fails) ((L.take k).map (·.sum))) L[k].sum:=by
   unfold iX;rw[sw];rfl
  rw[Gv];have zl:=Ae (r:=r) hQ l L[k].sum.toNat;have uM:(iX (eZ r l q.fails) ((L.take k).map (·.sum))).2.2<=1099511627776:=by
   rcases i3 with e|e
   .rw[e];omega
   .obtain⟨x,hx,e2⟩:=cd.1 e;have:=(hp.sums x ((cV x).1 hx)).2;omega
  have Mp:=XR (f:=eZ r l q.fails) (c:=1000000000) (iX (eZ r l q.fails) ((L.take k).map (·.sum))).2.2.toNat λs _ _=>(Ae hQ l s).2;rw[<-i1.sum] at Mp;have r0:=i1.r0;have r1:=i1.r1;have b0:=i1.b0;generalize iX (eZ r l q.fails) ((L.take k).map (·.sum))=w at*;obtain⟨whole,rest,below⟩:=w;simp only at*;have mX:=ady r L L[k].sum hfo aq3;have zd:=adw r L L[k].sum;have kN:=am5 r (dN r L L[k].sum) q (aqN hp.fg hfo _) hp.gr hQ (by omega);rw[aqL cV] at mX kN;simp[ajC,Oe,hk,hw];generalize L[k]=e at*;have hsn:((e.sum.toNat:Nat):Int)=e.sum:=by omega
  have oH:eZ r l q.fails e.sum.toNat=1000000000-sH r (dN r l e.sum) q.fails:=by unfold eZ;rw[hsn]
  rw[oH] at zl;unfold xx;by_cases hle:e.sum<=below
  .simp[hle]
  .rw[if_neg hle,oH];simp[hle];refine⟨_,mX,?_⟩;refine⟨_,kN,?_⟩;generalize sH r (dN r l e.sum) q.fails=ch at*;have wch:(D.int ch).i=ch:=rfl;rw[wch];generalize hpp:1000000000-ch=p at*;have wp:i64.wrap p=p:=aQ (by omega);have ww:i64.wrap (e.sum-below)=e.sum-below:=aQ (by omega);generalize hW:e.sum-below=W at*;have hW0:0<W/\W<=1099511627776:=by omega
   rw[wp,ww,AZ (by omega),Py (by omega)];have q1:0<=W/1000000000/\W/1000000000<=1100:=by omega
   have m1:0<=W%1000000000/\W%1000000000<1000000000:=by omega
   generalize W/1000000000=A at*;generalize W%1000000000=B at*;have a1:0<=A*p:=uk q1.1 zl.1;have a2:A*p<=1100*1000000000:=Px q1.2 zl.2 zl.1 (by omega);have b1:0<=B*p:=uk m1.1 zl.1;have b2:B*p<=1000000000*1000000000:=Px (by omega) zl.2 zl.1 (by omega);have hwb:whole<=1099511627776:=by omega
   have lP:0<=whole:=by
        have h1:=OY (f:=λ_=>0) (g:=eZ r l q.fails) below.toNat λs _ _=>(Ae hQ l s).1;have h2:=XQ (f:=λ_=>(0:Int)) (m:=0) (λ_ _=>rfl) (kf below.toNat);have h3:gQ (λ_=>(0:Int)) 0=0:=rfl;rw[h2,h3] at h1;have h4:=i1.sum;have h1:0<=gQ (eZ r l q.fails) below.toNat:=h1;simp only at h4;omega
   rw[aQ (n:=A) (by omega)];generalize A*p=X at*;generalize B*p=Y at*;rw[aQ (n:=X) (by omega),aQ (n:=Y) (by omega),aQ (n:=Y+rest) (by omega),AZ (by omega),Py (by omega),aQ (n:=whole+X) (by omega),aQ (n:=(Y+rest)/1000000000) (by omega),aQ (by omega)];exact⟨rfl,rfl⟩
 .simp[ajC,Oe]
def fa (r:Realm)(forum:Int)(f:File)(day:Int)(q:Quote):Int×Int:=
 if(ln r forum f day q).2≠0 then(0,(ln r forum f day q).2) else w6 (ln r forum f day q).1 q.perMille (eI r forum f day) day
def Pm (r:Realm)(forum:Int)(f:File)(day:Int)(q:Quote):ln r forum f day q=(0,1)\/(lf q=0/\uW r forum/\ln r forum f day q=(pv r (dG r forum f day) q.fails,0)):=by
 unfold ln;by_cases h:lf q≠0\/¬uW r forum
 .exact .inl (if_pos h)
 .refine .inr ⟨vB λe=>h (.inl e),vB λe=>h (.inr e),if_neg h⟩
def abu (r:Realm)(hr:Right r)(hd:RightD r)(forum:Int)(f:File)(day:Int)(hf:FewS f)(q:Quote)(tq:q.fails.length<=4294967296)(hp:PayOK r (dG r forum f day))(pM:aX day)(hm:eI r forum f day=-1\/(0<=eI r forum f day/\eI r forum f day<=100000/\0<=day)):
 aj T 10 [aV r,.int forum,cr f,.int day,q7 q] (.tup [.int (fa r forum f day q).1,.int (fa r forum f day q).2]):=by
 refine zyw 80 aCl ?_;simp[YV];refine⟨_,alr r hr hd forum f day hf q tq hp,?_⟩;rcases Pm r forum f day q with e|⟨hq,ho,e⟩
 .unfold fa;rw[e];simp
 obtain⟨p0,p1,hQ⟩:=Hn hq;unfold fa;rw[e];have lP:=aaN (r:=r) (l:=dG r forum f day) hQ;have jh:=akJ (r:=r) (l:=dG r forum f day) hQ;generalize pv r (dG r forum f day) q.fails=w at*;simp;refine⟨_,Jl r hr hd forum f day hf,?_⟩;generalize eI r forum f day=due at*;unfold w6;by_cases h1:due=-1
 .simp[h1]
 obtain⟨m0,m1,m2⟩:=hm.resolve_left h1;have ws:i64.wrap (due-day)=due-day:=aQ (by unfold aX at pM;omega);rw[if_neg h1];by_cases h2:day<due/\20000<due-day
 .rw[if_pos h2];simp[h1,h2,ws]
 rw[if_neg h2];have gZ:¬(day<due/\20000<due-day):=h2;simp[h1,gZ,ws];have hmx:(if due-day<0 then D.int 0 else D.int (due-day))=D.int (max (due-day) 0):=by
  split
  .rw[show max (due-day) 0=0 by omega]
  .rw[show max (due-day) 0=due-day by omega]
 have hD:=akW w q.perMille (max (due-day) 0);have hn:=anZ (w:=w) (pm:=q.perMille) (d:=max (due-day) 0) ⟨lP,jh⟩ ⟨p0,p1⟩ (by omega);have Ge:=Uu (w:=w) (x:=q.perMille*max (due-day) 0) lP (uk p0 (by omega));rw[<-hn] at Ge ⊢;generalize pG w q.perMille (max (due-day) 0)=dd at*;rw[hmx];refine⟨_,hD,?_⟩;obtain⟨d1,d2⟩:=dd;by_cases dv:d2=0
 .simp[dv] at Ge ⊢;exact aQ (by omega)
 .simp[dv]
def akj (a b:Int):Prop:=a=2\/a=b
def uZ (f:File)(x:Fact):Bool:=(decide (0<=x.kind)&&decide (x.kind<5))&&(decide (0<=x.at_)&&decide (x.at_<f.signs.length))&&(decide (0<=x.n)&&decide (x.n<=1))
def eD (f:File)(l:List Fact):File:=l.foldl (λg x=>if uZ g x=true then mD g x else g) f
def PY (f:File)(l:List Fact):MoreF f (eD f l):=by
 have h:∀(l:List Fact) (g:File),MoreF f g->MoreF f (l.foldl (λg x=>if uZ g x=true then mD g x else g) g):=by
  intro l
  induction l with
  |nil=>exact λg hg=>hg
  |cons x l ih=>
   intro g hg;refine ih _ ?_;show MoreF f (if uZ g x=true then mD g x else g);split
   .exact hg.with_ x
   .exact hg
 exact h l f (.rfl' f)
def abD (f:File)(l:List Fact):(eD f l).facts.length<=f.facts.length+l.length:=by
 have h:∀(l:List Fact) (g:File),(l.foldl (λg x=>if uZ g x=true then mD g x else g) g).facts.length<=g.facts.length+l.length:=by
  intro l
  induction l with
  |nil=>intro g;simp
  |cons x l ih=>
   intro g;have h1:=ih (if uZ g x=true then mD g x else g);have h2:=aEj g x;simp only[vG,px];split at h1<;>rename_i hc
   .rw[if_pos hc];omega
   .rw[if_neg hc];omega
 exact h l f
def alB (f:File)(l:List Fact){k:Nat}(hk:k<l.length):eD f (l.take (k+1))=if uZ (eD f (l.take k)) l[k]=true then mD (eD f (l.take k)) l[k] else eD f (l.take k):=by
 unfold eD;rw[iS hk,sw];rfl
@[simp] def aKH:D.none.b=false:=zyz
def eY (n a b:Int):aj T 32 [.int n,.int a,.int b] (.bool (wi n a b)):=by
 refine zyw 67 aB2 ?_;simp[YK];by_cases h:a<=n<;>simp[wi,h]
def pq (n m:Int):aj T 62 [.int n,.int m] (.bool (aC n m)):=by
 refine zyw 63 aDQ ?_;simp[aar];by_cases h:0<=n<;>simp[aC,h]
def O2 (b:Bill):Bool:=
 if b.tenor.kind=0\/b.tenor.kind=4 then decide (b.tenor.n=0)&&decide (b.tenor.unit=0)
 else if b.tenor.kind=1\/b.tenor.kind=2 then(decide (1<=b.tenor.n)&&decide (b.tenor.n<=400))&&(decide (b.tenor.unit=0)||decide (b.tenor.unit=1))
 else if b.tenor.kind=3 then(decide (b.day<=b.tenor.n)&&decide (b.tenor.n<=100000))&&decide (b.tenor.unit=0)
 else false
def aEm (b:Bill):aj T 63 [ed b] (.bool (O2 b)):=by
 refine zyw 64 aDR ?_;unfold O2;simp[aas];by_cases h0:b.tenor.kind=0
 .by_cases h1:b.tenor.n=0<;>simp[h0,h1]
 by_cases h4:b.tenor.kind=4
 .by_cases h1:b.tenor.n=0<;>simp[h4,h1]
 simp[h0,h4];by_cases k1:b.tenor.kind=1
 .by_cases h1:1<=b.tenor.n<;>by_cases h2:b.tenor.n<=400<;>by_cases h3:b.tenor.unit=0<;>simp[k1,h1,h2,h3]
 by_cases k2:b.tenor.kind=2
 .by_cases h1:1<=b.tenor.n<;>by_cases h2:b.tenor.n<=400<;>by_cases h3:b.tenor.unit=0<;>simp[k2,h1,h2,h3]
 simp[k1,k2];by_cases k3:b.tenor.kind=3
 .by_cases h1:b.day<=b.tenor.n<;>by_cases h2:b.tenor.n<=100000<;>simp[k3,h1,h2]
 simp[k3]
def u7 (n m:Int):Bool:=decide (n=-1)||aC n m
def AM (r:Realm)(b:Bill):Bool:=((aC b.drawer r.firms.length&&aC b.drawee r.firms.length)&&u7 b.payee r.firms.length)&&u7 b.need r.firms.length
def xK (r:Realm)(b:Bill):Bool:=(aC b.currency r.currencies.length&&aC b.city r.cities.length)&&aC b.pay r.cities.length
def Aw (b:Bill):Prop:=((((1<=b.sum/\b.sum<=1099511627776)/\0<=b.day)/\b.day<=100000)/\0<=b.rate)/\b.rate<=1000
def RG (b:Bill):Prop:=((0<=b.flags/\b.flags<=7)/\(bS .and .i64 b.flags 4=0\/¬b.payee=-1))/\O2 b=true
structure BillOK (r:Realm) (b:Bill):Prop where
 realm:iV r=0
 who:AM r b=true
 where_:xK r b=true
 range:Aw b
 parts:1<=b.parts/\b.parts<=4
 form:RG b
 usance:b.tenor.kind=4->∃u,u∈r.usances/\u.fr=b.city/\u.to=b.pay
def qA (P:Prop)(d:D):Prop:=∃e:Int,d=.int e/\(e=0↔P)
def qA.no {P:Prop}{e:Int}(h:¬P)(he:e≠0):qA P (.int e):=⟨e,rfl,λx=>absurd x he,λx=>absurd x h⟩
def qA.ok {P:Prop}(h:P):qA P (.int 0):=⟨0,rfl,λ_=>h,λ_=>rfl⟩
def aEl (r:Realm)(hs:Small r)(b:Bill):∃d,aj T 30 [aV r,ed b] d/\qA (BillOK r b) d:=by
 refine aj.ex_of_tree rfl al8 aDP ?_;simp[aaq];refine⟨_,Xq r hs,?_⟩;by_cases h0:iV r=0
 case neg=>
  simp[h0];exact .no (λh=>h0 h.realm) h0
 simp[h0];refine⟨_,pq _ _,?_⟩;cases h1:aC b.drawer r.firms.length
 .simp;exact .no (λh=>by simpa [AM,h1] using h.who) (by decide)
 simp;refine⟨_,pq _ _,?_⟩;cases h2:aC b.drawee r.firms.length
 .simp;exact .no (λh=>by simpa [AM,h2] using h.who) (by decide)
 by_cases h3:u7 b.payee r.firms.length=true
 case neg=>
  have fD:¬b.payee=-1/\aC b.payee r.firms.length=false:=by simpa [u7] using h3
  simp[fD.1];refine⟨_,pq _ _,?_⟩;simp[fD.2];exact .no (λh=>h3 (by have:=h.who;simp[AM] at this;exact this.1.2)) (by decide)
 by_cases h4:u7 b.need r.firms.length=true
 case neg=>
  have ox:¬b.need=-1/\aC b.need r.firms.length=false:=by simpa [u7] using h4
  have fH:qA (BillOK r b) (.int 1):=.no (λh=>h4 (by have:=h.who;simp[AM] at this;exact this.2)) (by decide);by_cases hp:b.payee=-1
  .simp[hp,ox.1];refine⟨_,pq _ _,?_⟩;simp[ox.2];exact fH
  .have fD:aC b.payee r.firms.length=true:=by simpa [u7,hp] using h3
   simp[hp];refine⟨_,pq _ _,?_⟩;simp[fD,ox.1];refine⟨_,pq _ _,?_⟩;simp[ox.2];exact fH
 have Mq:AM r b=true:=by simp[AM,h1,h2,h3,h4]
 have hp:b.payee=-1\/(¬b.payee=-1/\aC b.payee r.firms.length=true):=by
  by_cases e:b.payee=-1
  .exact .inl e
  .exact .inr ⟨e,by simpa [u7,e] using h3⟩
 have hn:b.need=-1\/(¬b.need=-1/\aC b.need r.firms.length=true):=by
  by_cases e:b.need=-1
  .exact .inl e
  .exact .inr ⟨e,by simpa [u7,e] using h4⟩
 have bad:¬xK r b=true->qA (BillOK r b) (.int 1):=λh=>.no (λk=>h k.where_) (by decide);have fin:∀u:Int,(u=0↔∃u,u∈r.usances/\u.fr=b.city/\u.to=b.pay)->Aw b->(1<=b.parts/\b.parts<=4)->RG b->xK r b=true->qA (BillOK r b) (if b.tenor.kind=4 then .int u else .int 0):=by
  intro u hu h6 h7 h8 h9;by_cases e:b.tenor.kind=4
  .rw[if_pos e];exact⟨u,rfl,λh=>⟨h0,Mq,h9,h6,h7,h8,λ_=>hu.1 h⟩,λh=>hu.2 (h.usance e)⟩
  .rw[if_neg e];exact .ok ⟨h0,Mq,h9,h6,h7,h8,λh=>absurd h e⟩
 obtain⟨un,ue,hu1,_,hu2⟩:=aby r b.city b.pay (by have:=hs.us;omega);rcases hp with hp|⟨hp,eR⟩<;>rcases hn with hn|⟨hn,mf⟩
 case' inl.inl=>simp[hp,hn]
 case' inl.inr=>simp[hp,hn];refine⟨_,pq _ _,?_⟩;simp[mf]
 case' inr.inl=>simp[hp,hn];refine⟨_,pq _ _,?_⟩;simp[eR]
 case' inr.inr=>simp[hp,hn];refine⟨_,pq _ _,?_⟩;simp[eR];refine⟨_,pq _ _,?_⟩;simp[mf]
 all_goals
  refine⟨_,pq _ _,?_⟩;cases h5:aC b.currency r.currencies.length
  .simp;exact bad (by simp[xK,h5])
  simp;refine⟨_,pq _ _,?_⟩;cases h6:aC b.city r.cities.length
  .simp;exact bad (by simp[xK,h6])
  simp;refine⟨_,pq _ _,?_⟩;cases h7:aC b.pay r.cities.length
  .simp;exact bad (by simp[xK,h7])
  have GB:xK r b=true:=by simp[xK,h5,h6,h7]
  simp;by_cases h8:Aw b
  case neg=>
   have RP:((((b.sum<1\/1099511627776<b.sum)\/b.day<0)\/100000<b.day)\/b.rate<0)\/1000<b.rate:=by unfold Aw at h8;omega
   rw[if_pos RP];exact .no (λk=>h8 k.range) (by decide)
  have RP:¬(((((b.sum<1\/1099511627776<b.sum)\/b.day<0)\/100000<b.day)\/b.rate<0)\/1000<b.rate):=by unfold Aw at h8;omega
  rw[if_neg RP];by_cases h9:1<=b.parts/\b.parts<=4
  case neg=>
   rw[if_pos (by omega)];exact .no (λk=>h9 k.parts) (by decide)
  rw[if_neg (by omega)];have P3:¬RG b->qA (BillOK r b) (.int 2):=λh=>.no (λk=>h k.form) (by decide);by_cases g1:0<=b.flags/\b.flags<=7
  case neg=>
   have fB:b.flags<0\/7<b.flags:=by omega
   simp[g1,fB];exact P3 (λh=>g1 h.1.1)
  have fB:¬(b.flags<0\/7<b.flags):=by omega
  by_cases g2:bS .and .i64 b.flags 4=0\/¬b.payee=-1
  case neg=>
   have pJ:¬bS .and .i64 b.flags 4=0/\b.payee=-1:=by simpa using g2
   first
        |exact absurd pJ.2 hp
        |(simp[g1,fB,pJ]
          exact P3 (λh=>g2 h.1.2))
  have g3:(b.payee=-1->bS .and .i64 b.flags 4=0):=λe=>g2.resolve_right (λh=>h e);simp[g1,fB,hp,g3];refine⟨_,aEm b,?_⟩;cases jt:O2 b
  .simp;exact P3 (λh=>by have:=h.2;rw[jt] at this;cases this)
  have hf:=fin ue hu2 h8 h9 ⟨⟨g1,g2⟩,jt⟩ GB;simp;by_cases e:b.tenor.kind=4
  .simp[e] at hf ⊢;exact⟨_,hu1,hf⟩
  .simp[e] at hf ⊢;exact hf
def D6 (f:File)(i part:Int):Bool:=decide (i=0)||decide ((eN f i).part=part)
def aiC (f:File)(i part:Int)(h:i=0\/(0<=i/\i<f.signs.length)):aj T 108 [cr f,.int i,.int part] (.bool (D6 f i part)):=by
 refine zyw 70 aB4 ?_;unfold D6;by_cases h0:i=0
 .simp[Pc,h0]
 .obtain⟨h1,h2⟩:=h.resolve_left h0;have h3:i.toNat<f.signs.length:=by omega
  simp[Pc,h0,h1,h2,h3,eN]
def JD (f:File)(i:Int)(kinds:List Int):Bool:=wi (eN f i).for_ 0 (i-1)&&(D6 f (eN f i).for_ (eN f i).part&&hasB kinds (eN f (eN f i).for_).kind)
def ayi (f:File)(i:Int)(kinds:List Int)(h:0<=i/\i<f.signs.length)(hl:f.signs.length<=100000)(hk:kinds.length<=100):aj T 107 [cr f,.int i,ints kinds] (.bool (JD f i kinds)):=by
 refine zyw 69 aBZ ?_;have h1:i.toNat<f.signs.length:=by omega
 have hw:i64.wrap (i-1)=i-1:=aQ (by omega);have hs:eN f i=f.signs[i.toNat]:=by simp[eN,h1]
 unfold JD;rw[hs];simp[YH,h,h1,hw];refine⟨_,eY _ _ _,?_⟩;cases hb:wi f.signs[i.toNat].for_ 0 (i-1)
 .simp
 .have cg:0<=f.signs[i.toNat].for_/\f.signs[i.toNat].for_<f.signs.length:=by
   simp[wi] at hb;omega
  have h2:f.signs[i.toNat].for_.toNat<f.signs.length:=by omega
  have eH:eN f f.signs[i.toNat].for_=f.signs[f.signs[i.toNat].for_.toNat]:=by simp[eN,h2]
  rw[eH];simp;refine⟨_,aiC f _ _ (.inr cg),?_⟩;cases cX:D6 f f.signs[i.toNat].for_ f.signs[i.toNat].part
  .simp
  simp[cg,h2];exact xN kinds _ (by omega)
def RB (r:Realm)(b:Bill)(s:Sign)(B:List Int->Bool):Bool:=
 if s.kind=0 then((((decide (s.who=b.drawer)&&decide (s.sum=0))&&decide (bS .or .i64 s.flags 1=1))&&decide (s.part=0))&&decide (s.day=b.day))&&decide (s.city=b.city)
 else if s.kind=1 then decide (s.who=b.drawee)&&(wi s.sum 1 1099511627776&&decide (s.flags=0))
 else if s.kind=2 then((wi s.to (-1) ((r.firms.length:Int)-1)&&decide (s.sum=0))&&wi s.flags 0 7)&&decide (bS .and .i64 s.flags 6≠6)
 else if s.kind=3 then(decide (s.sum=0)&&decide (s.flags=0))&&B [0,1,2,4]
 else if s.kind=4 then((wi s.sum 1 1099511627776&&decide (s.flags=0))&&decide (s.who≠b.drawee))&&B [0,2]
 else false
def Lq (r:Realm)(b:Bill)(i:Nat)(s:Sign)(B:List Int->Bool):Bool:=
 if ¬(i=0↔s.kind=0)\/(¬s.kind=2/\¬s.to=-1) then false
 else if(¬s.kind=3/\¬s.kind=4)/\¬s.for_=-1 then false
 else RB r b s B
def yU (r:Realm)(f:File)(i:Nat):Bool:=Lq r f.bill i (f.signs.getD i default) (JD f i)
def ayk (r:Realm)(hr:Small r)(f:File)(i:Nat)(h:i<f.signs.length)(hl:f.signs.length<=100000):aj T 65 [aV r,cr f,.int i] (.bool (yU r f i)):=by
 refine zyw 68 aB1 ?_;have lK:=hr.firms;have hw:i64.wrap ((r.firms.length:Int)-1)=(r.firms.length:Int)-1:=aQ (by omega);have hs:f.signs.getD i default=f.signs[i]:=by simp[h]
 have R4:=λks hk=>ayi f i ks ⟨by omega,by omega⟩ hl hk;unfold yU;rw[hs];generalize hB:JD f i=B at R4 ⊢;generalize hX:Lq r f.bill i f.signs[i] B=X;simp[YJ,h];generalize f.signs[i]=s at*;unfold Lq at hX;by_cases h1:¬(i=0↔s.kind=0)\/(¬s.kind=2/\¬s.to=-1)
 .rw[if_pos h1] at hX ⊢;exact hX.symm
 rw[if_neg h1] at hX ⊢;by_cases h2:(¬s.kind=3/\¬s.kind=4)/\¬s.for_=-1
 .rw[if_pos h2] at hX ⊢;exact hX.symm
 rw[if_neg h2] at hX ⊢;refine⟨_,eY _ _ _,?_⟩;unfold RB at hX;by_cases k0:s.kind=0
 .rw[if_pos k0] at hX ⊢;rw[<-hX];by_cases a:(((s.who=f.bill.drawer/\s.sum=0)/\bS BinOp.or IntKind.i64 s.flags 1=1)/\s.part=0)/\s.day=f.bill.day
  .simp[a]
  .rw[if_neg a]
   congr 1
   rw[eq_comm,aaX];intro e;simp at e;exact a e.1
 rw[if_neg k0] at hX ⊢;by_cases k1:s.kind=1
 .rw[if_pos k1] at hX ⊢;rw[<-hX];by_cases a:s.who=f.bill.drawee<;>cases wi s.sum 1 1099511627776<;>simp[a]
 rw[if_neg k1] at hX ⊢;by_cases k2:s.kind=2
 .rw[if_pos k2] at hX ⊢;rw[<-hX,hw];refine⟨_,eY _ _ _,?_⟩;cases wi s.to (-1) ((r.firms.length:Int)-1)
  .simp
  by_cases a:s.sum=0
  case neg=>simp[a]
  simp[a];refine⟨_,eY _ _ _,?_⟩;cases wi s.flags 0 7<;>simp
 rw[if_neg k2] at hX ⊢;by_cases k3:s.kind=3
 .rw[if_pos k3] at hX ⊢;rw[<-hX];by_cases a:s.sum=0/\s.flags=0
  case neg=>
   rw[if_neg a,if_neg a]
   congr 1
   rw[eq_comm,aaX];intro e;simp at e;exact a e.1
  rw[if_pos a];refine⟨_,R4 [0,1,2,4] (by decide),?_⟩;simp[a]
 rw[if_neg k3] at hX ⊢;by_cases k4:s.kind=4
 .rw[if_pos k4] at hX ⊢;rw[<-hX];cases wi s.sum 1 1099511627776
  .simp
  by_cases a:s.flags=0/\¬s.who=f.bill.drawee
  case neg=>
   simp[a]
  simp[a];exact R4 [0,2] (by decide)
 rw[if_neg k4] at hX ⊢;exact hX.symm
def oq (f:File)(i:Nat):Int:=if i=0 then f.bill.day else(f.signs.getD (i-1) default).day
def IX (f:File)(i:Nat)(s:Sign):Bool:=(f.signs.take i).any λx=>(decide (s.kind=1)&&decide (x.kind=1))&&decide (x.part=s.part)
def D3 (r:Realm)(f:File)(i:Nat):Int:=
 let s:=f.signs.getD i default
 if wi s.part 0 (f.bill.parts-1)=false then 15
 else if aC s.who r.firms.length=false\/aC s.city r.cities.length=false then 1
 else if wi s.day (oq f i) 100000=false\/(i=0/\¬s.day=oq f i) then 13
 else if yU r f i=false then 14
 else if IX f i s=true then 5 else 0
def aiB (r:Realm)(hr:Small r)(f:File)(hp:1<=f.bill.parts/\f.bill.parts<=4)(i:Nat)(h:i<f.signs.length)(hl:f.signs.length<=100000):aj T 31 [aV r,cr f,.int i] (.int (D3 r f i)):=by
 refine zyw 66 aB3 ?_;have lK:=hr.firms;have hci:=hr.cities;have jh:i64.wrap ((r.firms.length:Int)-1)=(r.firms.length:Int)-1:=aQ (by omega);have cZ:i64.wrap ((r.cities.length:Int)-1)=(r.cities.length:Int)-1:=aQ (by omega);have Tt:i64.wrap (f.bill.parts-1)=f.bill.parts-1:=aQ (by omega);have hs:f.signs.getD i default=f.signs[i]:=by simp[h]
 generalize hX:D3 r f i=X;unfold D3 at hX;simp only[hs] at hX;simp[YL,h,jh,cZ,Tt];refine⟨_,eY _ _ _,?_⟩;cases a1:wi f.signs[i].part 0 (f.bill.parts-1)
 .simpa [a1] using hX
 simp[a1] at hX ⊢;refine⟨_,eY _ _ _,?_⟩;rw[oN] at hX;cases a2:wi f.signs[i].who 0 ((r.firms.length:Int)-1)
 .simpa [a2] using hX
 simp[a2] at hX ⊢;refine⟨_,eY _ _ _,?_⟩;rw[oN] at hX;cases a3:wi f.signs[i].city 0 ((r.cities.length:Int)-1)
 .simpa [a3] using hX
 simp[a3] at hX ⊢;refine⟨by omega,?_⟩;have zi:min i f.signs.length=i:=by omega
 refine aK.forRounds i (λk=>[.int (oq f k),.bool ((f.signs.take k).any λx=>(decide (f.signs[i].kind=1)&&decide (x.kind=1))&&decide (x.part=f.signs[i].part)),.int k]) (λ_=>[]) ?_ (λk hk=>?_) ?_
 .simp[oq]
 .have hw:=bq hk (by omega);have bn:k<f.signs.length:=by omega
  have hf:oq f (k+1)=f.signs[k].day:=by simp[oq,bn]
  rw[iS bn,List.any_append];generalize ((f.signs.take k).any λx=>(decide (f.signs[i].kind=1)&&decide (x.kind=1))&&decide (x.part=f.signs[i].part))=A;simp[ajB,Od,hk,bn,h,hw,hf,zi];cases A
  .by_cases e1:f.signs[i].kind=1<;>by_cases e2:f.signs[k].kind=1<;>simp[e1,e2]
  .simp
 .have ht:IX f i f.signs[i]=true↔∃x,x∈List.take i f.signs/\(f.signs[i].kind=1/\x.kind=1)/\x.part=f.signs[i].part:=by simp[IX]
  simp[ajB,Od,zi,h];refine⟨_,eY _ _ _,?_⟩;by_cases a4:wi f.signs[i].day (oq f i) 100000=false\/(i=0/\¬f.signs[i].day=oq f i)
  .rw[if_pos a4] at hX;rw[if_pos (by simpa using a4)];exact hX
  rw[if_neg a4] at hX;rw[if_neg (by simpa using a4)];refine⟨_,ayk r hr f i h hl,?_⟩;cases a5:yU r f i
  .simpa [a5] using hX
  simp[a5] at hX;simp only[anN,if_true];rw[<-hX];by_cases a6:IX f i f.signs[i]=true
  .rw[if_pos a6,if_pos (ht.1 a6)]
  .rw[if_neg a6,if_neg (λx=>a6 (ht.2 x))]
def Jt (a:Act)(to at_ own:Bool):Bool:=
 if a.kind=0\/a.kind=1\/a.kind=2 then(to&&decide (a.at_=-1))&&decide (a.sum=0)
 else if a.kind=3\/a.kind=4\/a.kind=5 then((to&&decide (a.at_=-1))&&wi a.sum 0 1099511627776)&&wi a.form 0 1
 else if a.kind=6 then(to&&own)&&wi a.sum 1 1099511627776
 else if a.kind=9 then(decide (a.to=-1)&&own)&&decide (a.sum=0)
 else(decide (a.to=-1)&&at_)&&decide (a.sum=0)
def ED (f:File)(a:Act):Bool:=aC a.at_ f.signs.length&&D6 f a.at_ a.part
def VH (f:File)(a:Act):Bool:=ED f a&&decide ((eN f a.at_).who=a.who)
def vK (r:Realm)(f:File)(a:Act):Bool:=
 if aC a.who r.firms.length=false\/(¬a.kind=4/\¬a.form=0) then false else Jt a (aC a.to r.firms.length) (ED f a) (VH f a)
def ayg (r:Realm)(hr:Small r)(f:File)(a:Act)(hl:f.signs.length<=100000):aj T 66 [aV r,cr f,ki a] (.bool (vK r f a)):=by
 refine zyw 72 aBX ?_;have lK:=hr.firms;have jh:i64.wrap ((r.firms.length:Int)-1)=(r.firms.length:Int)-1:=aQ (by omega);have cZ:i64.wrap ((f.signs.length:Int)-1)=(f.signs.length:Int)-1:=aQ (by omega);generalize hX:vK r f a=X;unfold vK VH ED at hX;simp[YE,jh,cZ];refine⟨_,eY _ _ _,?_⟩;rw[<-oN];have zw:=eY a.to 0 ((r.firms.length:Int)-1);have GB:=eY a.who 0 ((r.firms.length:Int)-1);rw[<-oN] at zw GB;generalize aC a.to r.firms.length=tt at*;generalize aC a.who r.firms.length=ww at*;have fin:∀at_ own:Bool,(if ww=false\/(¬a.kind=4/\¬a.form=0) then false else Jt a tt at_ own)=X->
  if ww=false\/(¬a.kind=4/\¬a.form=0) then X=false
  else if a.kind=0\/a.kind=1\/a.kind=2 then(if tt=true/\a.at_=-1 then D.bool (decide (a.sum=0)) else D.bool false)=D.bool X
  else if a.kind=3\/a.kind=5\/a.kind=4 then
        if tt=true/\a.at_=-1 then
         ∃d,aj (cP tab ext) 32 [D.int a.sum,D.int 0,D.int 1099511627776] d/\
          if(tt=true/\a.at_=-1)/\d.b=true then
             ∃Fa,aj (cP tab ext) 32 [D.int a.form,D.int 0,D.int 1] Fa/\(if(tt=true/\a.at_=-1)/\d.b=true then Fa else D.bool false)=D.bool X
          else(if(tt=true/\a.at_=-1)/\d.b=true then D.none else D.bool false)=D.bool X
        else D.bool false=D.bool X
  else if a.kind=6 then
        if tt=true/\own=true then ∃Fa,aj (cP tab ext) 32 [D.int a.sum,D.int 1,D.int 1099511627776] Fa/\(if tt=true/\own=true then Fa else D.bool false)=D.bool X
        else(if tt=true/\own=true then D.none else D.bool false)=D.bool X
  else if a.kind=9 then(if a.to=-1/\own=true then D.bool (decide (a.sum=0)) else D.bool false)=D.bool X
  else(if a.to=-1/\at_=true then D.bool (decide (a.sum=0)) else D.bool false)=D.bool X:=by
  intro at_ own hX;by_cases p:ww=false\/(¬a.kind=4/\¬a.form=0)
  .rw[if_pos p] at hX ⊢;exact hX.symm
  rw[if_neg p] at hX ⊢;unfold Jt at hX;by_cases k0:a.kind=0\/a.kind=1\/a.kind=2
  .rw[if_pos k0] at hX ⊢;rw[<-hX];by_cases e:tt=true/\a.at_=-1
   .simp[e]
   .rw[if_neg e];cases tt<;>simp at e ⊢;simp[e]
  rw[if_neg k0] at hX ⊢;by_cases k3:a.kind=3\/a.kind=4\/a.kind=5
  .rw[if_pos k3] at hX;rw[if_pos (by omega),<-hX];by_cases e:tt=true/\a.at_=-1
   .rw[if_pos e];refine⟨_,eY _ _ _,?_⟩;cases wi a.sum 0 1099511627776
    .simp
    .simp[e];exact eY _ _ _
   .rw[if_neg e];cases tt<;>simp at e ⊢;simp[e]
  rw[if_neg k3] at hX;rw[if_neg (by omega)];by_cases k6:a.kind=6
  .rw[if_pos k6] at hX ⊢;rw[<-hX];by_cases e:tt=true/\own=true
   .rw[if_pos e];refine⟨_,eY _ _ _,?_⟩;simp[e]
   .rw[if_neg e,if_neg e];cases tt<;>cases own<;>simp at e ⊢
  rw[if_neg k6] at hX ⊢;by_cases k9:a.kind=9
  .rw[if_pos k9] at hX ⊢;rw[<-hX];cases own<;>by_cases e:a.to=-1<;>simp[e]
  rw[if_neg k9] at hX ⊢;rw[<-hX];cases at_<;>by_cases e:a.to=-1<;>simp[e]
 cases h1:aC a.at_ f.signs.length
 .have hf:=fin false false (by simpa [h1] using hX);simp at hf ⊢;refine⟨_,zw,_,GB,?_⟩;simpa using hf
 have cC:0<=a.at_/\a.at_<f.signs.length:=by simpa [aC] using h1
 have h2:a.at_.toNat<f.signs.length:=by omega
 have hs:eN f a.at_=f.signs[a.at_.toNat]:=by simp[eN,h2]
 simp[cC];refine⟨_,aiC f _ _ (.inr cC),_,zw,_,GB,?_⟩;rw[h1,hs] at hX;have hf:=fin _ _ hX;cases h3:D6 f a.at_ a.part
 .rw[h3] at hf;simpa using hf
 .rw[h3] at hf;simpa [h2] using hf
def MS (a b:Int):(if a<b then b else a)=max a b:=by split<;>omega
def Us (a b:Int):(if a<b then D.int b else D.int a)=D.int (max a b):=by
 rw[<-MS];split<;>rfl
def Uf (f:File)(i:Nat)(a:Act):Int:=
 let x:=if a.at_=-1 then f.bill.day else max f.bill.day (eN f a.at_).day
 if i=0 then x else max x (f.acts.getD (i-1) default).day
def vL (r:Realm)(f:File)(i:Nat):Int:=
 let a:=f.acts.getD i default
 if wi a.part 0 (f.bill.parts-1)=false then 15
 else if aC a.city r.cities.length=false\/wi a.kind 0 9=false then 1
 else if vK r f a=false then 14
 else if wi a.day (Uf f i a) 100000=false then 13 else 0
def abC {r:Realm}{f:File}{a:Act}(h:vK r f a=true)(hn:¬a.at_=-1):0<=a.at_/\a.at_<f.signs.length:=by
 unfold vK at h;split at h
 .cases h
 have key:ED f a=true->0<=a.at_/\a.at_<f.signs.length:=λe=>by
  unfold ED at e;simp only[au] at e;simpa [aC] using e.1
 unfold Jt VH at h
 repeat' split at h
 all_goals simp only[au,decide_eq_true_eq] at h
 .exact absurd h.1.2 hn
 .exact absurd h.1.1.2 hn
 .exact key h.1.2.1
 .exact key h.1.2.1
 .exact key h.1.2
def ayh (r:Realm)(hr:Small r)(f:File)(hp:1<=f.bill.parts/\f.bill.parts<=4)(hl:f.signs.length<=100000)(ze:f.acts.length<=100000):aj T 33 [aV r,cr f] (.int (fW f.acts.length (vL r f))):=by
 refine zyw 71 aBY ?_;have hci:=hr.cities;have cZ:i64.wrap ((r.cities.length:Int)-1)=(r.cities.length:Int)-1:=aQ (by omega);have Tt:i64.wrap (f.bill.parts-1)=f.bill.parts-1:=aQ (by omega);simp[YG];refine qo f.acts.length (vL r f) (λk=>[.int 0,.int k]) (λ_=>[]) ?_ (λk hk ho=>?_) (λk hk ho hb=>?_) (λhj=>?_)
 .simp
 case' refine_2=>have hb:vL r f k=vL r f k:=rfl
 case' refine_3=>rw[hb]
 case refine_4=>simp[ajz,Oa,hj]
 all_goals
  have hw:=bq hk (by omega);have hs:f.acts.getD k default=f.acts[k]:=by simp[hk]
  clear hb;generalize hX:vL r f k=X at*;unfold vL at hX;simp only[hs] at hX;simp[ajz,Oa,hk,cZ,Tt,hw];refine⟨_,eY _ _ _,?_⟩;cases a1:wi f.acts[k].part 0 (f.bill.parts-1)
  .simp[a1] at hX ⊢
   first|exact hX|(exfalso;omega)
  simp[a1] at hX ⊢;refine⟨_,eY _ _ _,?_⟩;rw[oN] at hX;cases a2:wi f.acts[k].city 0 ((r.cities.length:Int)-1)
  .simp[a2] at hX ⊢
   first|exact hX|(exfalso;omega)
  simp[a2] at hX ⊢;refine⟨_,eY _ _ _,?_⟩;cases a3:wi f.acts[k].kind 0 9
  .simp[a3] at hX ⊢
   first|exact hX|(exfalso;omega)
  simp[a3] at hX ⊢;refine⟨_,ayg r hr f f.acts[k] hl,?_⟩;cases a4:vK r f f.acts[k]
  .simp[a4] at hX ⊢
   first|exact hX|(exfalso;omega)
  simp[a4] at hX ⊢;unfold Uf at hX;by_cases k0:k=0
  .subst k0;by_cases e1:f.acts[0].at_=-1
   .simp[e1] at hX;simp[e1];refine⟨_,eY _ _ _,?_⟩;split at hX
    .rename_i e;simp[e]
     first|exact hX|(exfalso;omega)
    .rename_i e
     first|(exfalso;omega)|simp[e]
   .obtain⟨h5,h6⟩:=abC a4 e1;have h7:f.acts[0].at_.toNat<f.signs.length:=by omega
    have h8:eN f f.acts[0].at_=f.signs[f.acts[0].at_.toNat]:=by simp[eN,h7]
    simp[e1,h8] at hX;simp[e1,h5,h6,h7,Us,MS];refine⟨_,eY _ _ _,?_⟩;split at hX
    .rename_i e;simp[e]
     first|exact hX|(exfalso;omega)
    .rename_i e
     first|(exfalso;omega)|simp[e]
  .have bD:i64.wrap ((k:Int)-1)=(k:Int)-1:=aQ (by omega);have ct:((k:Int)-1).toNat=k-1:=by omega
   have mZ:k-1<f.acts.length:=by omega
   have CO:0<k:=by omega
   by_cases e1:f.acts[k].at_=-1
   .simp[k0,e1,mZ] at hX;simp[e1,CO,bD,ct,mZ,Us,MS];refine⟨by omega,_,eY _ _ _,?_⟩;split at hX
    .rename_i e;simp[e]
     first|exact hX|(exfalso;omega)
    .rename_i e
     first|(exfalso;omega)|simp[e]
   .obtain⟨h5,h6⟩:=abC a4 e1;have h7:f.acts[k].at_.toNat<f.signs.length:=by omega
    have h8:eN f f.acts[k].at_=f.signs[f.acts[k].at_.toNat]:=by simp[eN,h7]
    simp[k0,e1,mZ,h8] at hX;simp[e1,CO,bD,ct,mZ,h5,h6,h7,Us,MS];refine⟨by omega,_,eY _ _ _,?_⟩;split at hX
    .rename_i e;simp[e]
     first|exact hX|(exfalso;omega)
    .rename_i e
     first|(exfalso;omega)|simp[e]
def qP (a b:Int):Int:=if a<b then-1 else if b<a then 1 else 0
def afu (a:Int):aj T 109 [.int a] (.bool false):=by
 refine zyw 75 aBF ?_;simp[Yq]
def aa0 (a b:Int):aj T 68 [.int a,.int b] (.int (qP a b)):=by
 refine zyw 74 aBD ?_;simp[Yo];refine⟨_,afu a,_,afu b,?_⟩;unfold qP;by_cases h1:a<b
 .simp[h1]
 by_cases h2:b<a<;>simp[h1,h2]
def alg (l:List Int)(hl:l.length<=100000):aj T 67 [ints l] (.int (fW l.length λk=>l.getD k 0)):=by
 refine zyw 76 aBE ?_;simp[Yp];refine qo l.length (λk=>l.getD k 0) (λk=>[.int 0,.int k]) (λ_=>[]) ?_ (λk hk ho=>?_) (λk hk ho hb=>?_) (λhj=>?_)
 .simp
 .have hw:=bq hk (by omega);have hx:l[k]=0:=by simpa [hk] using ho
  simp[Ww,HG,hk,hx,hw]
 .have hx:¬l[k]=0:=by simpa [hk] using ho
  simp only[aH] at hb ⊢;rw[hb];simp[Ww,HG,hk,hx]
 .simp only[aH] at hj ⊢;rw[hj];simp[Ww,HG]
def or2 (a b:Int):(fW 2 λk=>[a,b].getD k 0)=if a=0 then b else a:=by
 have e:List.range 2=[0,1]:=rfl;unfold fW;rw[e];by_cases ha:a=0<;>by_cases hb:b=0<;>simp[ha,hb]
def A9 (x y:Fact):Prop:=x.at_<y.at_\/(x.at_=y.at_/\x.kind<y.kind)
instance (x y:Fact):Decidable (A9 x y):=by unfold A9;infer_instance
def alE (x y:Fact):0<=(if qP x.at_ y.at_=0 then qP x.kind y.kind else qP x.at_ y.at_)↔¬A9 x y:=by
 unfold qP A9
 repeat' split
 all_goals omega
def yS (f:File)(i:Nat):Int:=
 let x:=f.facts.getD i default
 if wi x.kind 0 4=false then 1 else if aC x.at_ f.signs.length=false then 1 else if wi x.n 0 1=false then 1
 else if i=0 then 0 else if A9 (f.facts.getD (i-1) default) x then 0 else 5
def ayj (f:File)(hl:f.signs.length<=100000)(hlf:f.facts.length<=100000):aj T 34 [cr f] (.int (fW f.facts.length (yS f))):=by
 refine zyw 73 aB0 ?_;have cZ:i64.wrap ((f.signs.length:Int)-1)=(f.signs.length:Int)-1:=aQ (by omega);simp[YI];refine qo f.facts.length (yS f) (λk=>[.int 0,.int k]) (λ_=>[]) ?_ (λk hk ho=>?_) (λk hk ho hb=>?_) (λhj=>?_)
 .simp
 case' refine_2=>have hb:yS f k=yS f k:=rfl
 case' refine_3=>rw[hb]
 case refine_4=>simp[ajA,Oc,hj]
 all_goals
  have hw:=bq hk (by omega);have hs:f.facts.getD k default=f.facts[k]:=by simp[hk]
  clear hb;generalize hX:yS f k=X at*;unfold yS at hX;simp only[hs] at hX;simp[ajA,Oc,hk,cZ,hw];refine⟨_,eY _ _ _,?_⟩;cases a1:wi f.facts[k].kind 0 4
  .simp[a1] at hX ⊢
   first|exact hX|(exfalso;omega)
  simp[a1] at hX ⊢;refine⟨_,eY _ _ _,?_⟩;rw[oN] at hX;cases a2:wi f.facts[k].at_ 0 ((f.signs.length:Int)-1)
  .simp[a2] at hX ⊢
   first|exact hX|(exfalso;omega)
  simp[a2] at hX ⊢;refine⟨_,eY _ _ _,?_⟩;cases a3:wi f.facts[k].n 0 1
  .simp[a3] at hX ⊢
   first|exact hX|(exfalso;omega)
  simp[a3] at hX ⊢;by_cases k0:k=0
  .subst k0;simp at hX ⊢
   first|(exfalso;omega)|done
  .have bD:i64.wrap ((k:Int)-1)=(k:Int)-1:=aQ (by omega);have ct:((k:Int)-1).toNat=k-1:=by omega
   have mZ:k-1<f.facts.length:=by omega
   simp[k0,mZ] at hX;simp[k0,bD,ct,mZ];refine⟨by omega,_,aa0 _ _,_,aa0 _ _,?_⟩;have ho:=alg [qP f.facts[k-1].at_ f.facts[k].at_,qP f.facts[k-1].kind f.facts[k].kind] (by simp);simp only[px,A2] at ho;rw[or2] at ho;refine⟨_,ho,?_⟩;have ha:=alE f.facts[k-1] f.facts[k];generalize (if qP f.facts[k-1].at_ f.facts[k].at_=0 then qP f.facts[k-1].kind f.facts[k].kind else qP f.facts[k-1].at_ f.facts[k].at_)=n at*;clear ho;by_cases e:A9 f.facts[k-1] f.facts[k]
   .have hn:¬0<=n:=λh=>ha.1 h e;simp[e] at hX;simp[hn]
    first|done|(exfalso;omega)
   .have hn:0<=n:=ha.2 e;simp[e] at hX;simp[hn]
    first|exact hX|(exfalso;omega)
def ye (f:File)(i:Nat):Int:=
 let x:=f.alters.getD i default
 if wi x.at_ ((if i=0 then 0 else(f.alters.getD (i-1) default).at_)+1) f.signs.length=false then 1 else if wi x.sum 1 1099511627776=false then 3 else 0
structure PaperOK (r:Realm) (f:File):Prop where
 full:(f.signs.length<=40/\f.alters.length<=4)/\f.acts.length<=100/\f.facts.length<=200
 bill:BillOK r f.bill
 ne:f.signs≠[]
 signs:fW f.signs.length (D3 r f)=0
 alters:fW f.alters.length (ye f)=0
 acts:fW f.acts.length (vL r f)=0
 facts:fW f.facts.length (yS f)=0
def aye (r:Realm)(hs:Small r)(f:File)(RO:f.OK):∃d,aj T 7 [aV r,cr f] d/\qA (PaperOK r f) d:=by
 refine aj.ex_of_tree rfl alV aBV ?_;simp[YC];by_cases hf:(f.signs.length<=40/\f.alters.length<=4)/\f.acts.length<=100/\f.facts.length<=200
 case neg=>
  rw[if_pos (by omega)];exact .no (λh=>hf h.full) (by decide)
 rw[if_neg (by omega)];obtain⟨d,hb,e,rfl,he⟩:=aEl r hs f.bill;refine⟨_,hb,?_⟩;by_cases e0:e=0
 case neg=>
  simp[e0];exact .no (λh=>e0 (he.2 h.bill)) e0
 have LM:=he.1 e0;simp[e0];by_cases ay:f.signs=[]
 .simp[ay];exact .no (λh=>h.ne ay) (by decide)
 simp[ay];refine qo f.signs.length (D3 r f) (λk=>[.int 0,.int k]) (λ_=>[]) ?_ (λk hk ho=>?_) (λk hk ho hb=>?_) (λhj=>?_)
 .simp
 .have hw:=bq hk (by omega);simp[Wz,HJ,hk,hw];refine⟨_,aiB r hs f LM.parts k hk (by omega),?_⟩;simp[ho]
 .simp[Wz,HJ,hk];refine⟨_,aiB r hs f LM.parts k hk (by omega),?_⟩;simp[ho];exact .no (λh=>ho (by rw[<-hb];exact h.signs)) ho
 simp[Wz,HJ];have lM:∀k,k<f.alters.length->(∀j,j<k->ye f j=0)->i64.wrap ((if k=0 then 0 else(f.alters.getD (k-1) default).at_)+1)=(if k=0 then 0 else(f.alters.getD (k-1) default).at_)+1:=by
  intro k hk hj;refine aQ ?_;by_cases k0:k=0
  .rw[if_pos k0];omega
  .rw[if_neg k0];have h1:=hj (k-1) (by omega);have bD:k-1<f.alters.length:=by omega
   have h2:=(RO.2.2.1.2 _ (bQ bD)).1;have h3:f.alters.getD (k-1) default=f.alters[k-1]:=by simp[bD]
   unfold ye at h1;rw[h3] at h1 ⊢;simp only at h1;generalize (if k-1=0 then(0:Int) else(f.alters.getD (k-1-1) default).at_)=L0 at h1;split at h1
   .cases h1
   .rename_i hh;simp[wi] at hh;unfold aX at h2;omega
 refine aK.scan f.alters.length (λk=>ye f k=0) (λk=>[.int 0,.int (if k=0 then 0 else(f.alters.getD (k-1) default).at_),.int k]) (λ_=>[]) ?_ (λk hk tg ho=>?_) (λk hk tg ho=>?_) (λF3=>?_)
 .simp
 .have hw:=bq hk (by omega);have hl:=lM k hk tg;generalize hL:(if k=0 then 0 else(f.alters.getD (k-1) default).at_)=L at*;have hs:f.alters.getD k default=f.alters[k]:=by simp[hk]
  unfold ye at ho;simp only[hs,hL] at ho;simp[WA,HL,hk,hl];refine⟨_,eY _ _ _,?_⟩;cases a1:wi f.alters[k].at_ (L+1) f.signs.length
  .simp[a1] at ho
  simp[a1] at ho ⊢;refine⟨_,eY _ _ _,?_⟩;simp[ho,hw]
 .have hl:=lM k hk tg;have Sd:=Rx hk tg ho;generalize hL:(if k=0 then 0 else(f.alters.getD (k-1) default).at_)=L at*;have hs:f.alters.getD k default=f.alters[k]:=by simp[hk]
  have bad:∀e:Int,e≠0->qA (PaperOK r f) (.int e):=λe h=>.no (λh=>ho (by rw[<-Sd];exact h.alters)) h;unfold ye at ho;simp only[hs,hL] at ho;simp[WA,HL,hk,hl];refine⟨_,eY _ _ _,?_⟩;cases a1:wi f.alters[k].at_ (L+1) f.signs.length
  .simp;exact bad 1 (by decide)
  simp[a1] at ho ⊢;refine⟨_,eY _ _ _,?_⟩;simp[ho];exact bad 3 (by decide)
 have F3:=Rz F3;simp[WA,HL];refine⟨_,ayh r hs f LM.parts (by omega) (by omega),?_⟩;by_cases e3:fW f.acts.length (vL r f)=0
 case neg=>
  simp[e3];exact .no (λh=>e3 h.acts) e3
 simp[e3];refine⟨_,ayj f (by omega) (by omega),?_⟩;exact⟨_,rfl,λh=>⟨hf,LM,ay,hj,F3,e3,h⟩,λh=>h.facts⟩
structure SignOK (r:Realm) (f:File) (i:Nat) (s:Sign):Prop where
 part:0<=s.part/\s.part<=f.bill.parts-1
 who:0<=s.who/\s.who<r.firms.length
 city:0<=s.city/\s.city<r.cities.length
 day:oq f i<=s.day/\s.day<=100000
 fits:yU r f i=true
 once:IX f i s=false
def PaperOK.sign {r:Realm}{f:File}(h:PaperOK r f)(i:Nat)(hi:i<f.signs.length):SignOK r f i f.signs[i]:=by
 have h1:=Rw h.signs i hi;have hs:f.signs.getD i default=f.signs[i]:=by simp[hi]
 unfold D3 at h1;simp only[hs] at h1;split at h1
 .cases h1
 rename_i a1;split at h1
 .cases h1
 rename_i a2;split at h1
 .cases h1
 rename_i a3;split at h1
 .cases h1
 rename_i a4;split at h1
 .cases h1
 rename_i a5;simp[wi,aC] at a1 a2 a3;exact⟨⟨by omega,by omega⟩,⟨by omega,by omega⟩,⟨by omega,by omega⟩,⟨by omega,by omega⟩,by simpa using a4,by simpa using a5⟩
structure I5 (r:Realm) (f:File) (i:Nat) (a:Act):Prop where
 part:0<=a.part/\a.part<=f.bill.parts-1
 city:0<=a.city/\a.city<r.cities.length
 kind:0<=a.kind/\a.kind<=9
 fits:vK r f a=true
 day:Uf f i a<=a.day/\a.day<=100000
def PaperOK.day {r:Realm}{f:File}(h:PaperOK r f):0<=f.bill.day/\f.bill.day<=100000:=by
 have:=h.bill.range;unfold Aw at this;omega
def adk {r:Realm}{f:File}(h:PaperOK r f):∀i,i<f.signs.length->0<=oq f i
 |0,_=>by simp[oq];exact h.day.1
 |i+1,hi=>by
  have h1:=(h.sign i (by omega)).day.1;have h2:=adk h i (by omega);have e:oq f (i+1)=f.signs[i].day:=by simp[oq,show i<f.signs.length by omega]
  omega
def aAz {r:Realm}{f:File}{i:Nat}(hi:i<f.signs.length)(h:yU r f i=true)(hk:f.signs[i].kind=1\/f.signs[i].kind=4):1<=f.signs[i].sum/\f.signs[i].sum<=1099511627776:=by
 have hs:f.signs.getD i default=f.signs[i]:=by simp[hi]
 unfold yU at h;rw[hs] at h;unfold Lq at h;split at h
 .cases h
 split at h
 .cases h
 unfold RB at h;rcases hk with hk|hk
 .simp[hk,wi] at h;omega
 .simp[hk,wi] at h;omega
def PaperOK.sums {r:Realm}{f:File}(h:PaperOK r f):SumsOK f:=by
 have hr:=h.bill.range;unfold Aw at hr;refine⟨by omega,by omega,λa ha=>?_,λs hs hk=>?_⟩
 .obtain⟨i,hi,rfl⟩:=fw ha;have h1:=Rw h.alters i hi;have hs:f.alters.getD i default=f.alters[i]:=by simp[hi]
  unfold ye at h1;simp only[hs] at h1;generalize (if i=0 then(0:Int) else(f.alters.getD (i-1) default).at_)=L at h1;split at h1
  .cases h1
  split at h1
  .cases h1
  rename_i a1;simp[wi] at a1;omega
 .obtain⟨i,hi,rfl⟩:=fw hs;exact aAz hi (h.sign i hi).fits hk
def IZ (fr to:Int)(u:Usance):Bool:=decide (u.fr=fr)&&decide (u.to=to)
def IY (l:List Usance)(fr to:Int):Int×Int:=match l.find? (IZ fr to) with|some u=>(u.days,0)|none=>(0,4)
def alo (r:Realm)(fr to:Int)(hl:r.usances.length<=100000):aj T 64 [aV r,.int fr,.int to] (.tup [.int (IY r.usances fr to).1,.int (IY r.usances fr to).2]):=by
 refine .of_tree rfl abV akx ?_;simp[Pe];unfold IY;refine aK.scan r.usances.length (λk=>IZ fr to (r.usances.getD k default)=false) (λk=>[.int 0,.int 0,.int k]) (λ_=>[]) ?_ (λk hk hj ax=>?_) (λk hk hj ax=>?_) (λhj=>?_)
 .simp
 .have hw:=bq hk (by omega);have hn:¬(r.usances[k].fr=fr/\r.usances[k].to=to):=by simpa [IZ,hk] using ax
  simp[DR,xj,hk,hw,hn]
 .have lK:=yT hk (by simpa [hk] using ax) (λj bA=>by have:=hj j bA;simpa [show j<r.usances.length by omega] using this);have hc:r.usances[k].fr=fr/\r.usances[k].to=to:=by simpa [IZ,hk] using ax
  rw[lK];simp[DR,xj,hk,hc]
 .have lK:=Cq (l:=r.usances) (p:=IZ fr to) (λj bA=>by have:=hj j bA;simpa [bA] using this);rw[lK];simp[DR,xj]
def Jv (d:Int)(t:Tenor):Int×Int:=((Ey d t).choose,(Ey d t).choose_spec.choose)
def abE (d:Int)(t:Tenor):aj T 120 [.int d,pH t] (.tup [.int (Jv d t).1,.int (Jv d t).2]):=(Ey d t).choose_spec.choose_spec
def yg (l:List Usance)(b:Bill)(seen:Int):Int×Int:=
 if b.tenor.kind=0 then(seen,0) else if b.tenor.kind=1 then Jv seen b.tenor else if b.tenor.kind=2 then Jv b.day b.tenor
 else if b.tenor.kind=4 then(i64.wrap (b.day+(IY l b.city b.pay).1),(IY l b.city b.pay).2) else(b.tenor.n,0)
def aml (r:Realm)(hr:RightD r)(b:Bill)(seen:Int):aj T 80 [aV r,ed b,.int seen] (.tup [.int (yg r.usances b seen).1,.int (yg r.usances b seen).2]):=by
 have Tj:D.agg [D.int b.tenor.kind,D.int b.tenor.n,D.int b.tenor.unit]=pH b.tenor:=rfl;refine .of_tree rfl Bd Ee ?_;unfold yg;by_cases h0:b.tenor.kind=0
 .simp[qs,h0]
 by_cases h1:b.tenor.kind=1
 .have h:=abE seen b.tenor;have cC:(b.tenor.kind=1)=True:=eq_true h1;simp[qs,h0,cC];exact⟨_,h,by simp⟩
 by_cases h2:b.tenor.kind=2
 .have h:=abE b.day b.tenor;have gZ:(b.tenor.kind=2)=True:=eq_true h2;simp[qs,h0,h1,gZ];exact⟨_,h,by simp⟩
 by_cases h4:b.tenor.kind=4
 .have h:=alo r b.city b.pay (by have:=hr.small.us;omega);have ox:(b.tenor.kind=4)=True:=eq_true h4;simp[qs,h0,h1,h2,ox];exact⟨_,h,by simp⟩
 .simp[qs,h0,h1,h2,h4]
def MB (r:Realm)(pay bX:Int)(x:Int×Int):Int×Int:=
 if x.2≠0 then(0,x.2) else if fc x.1=false\/100000<i64.wrap (x.1+bX) then(0,3) else vt r pay (i64.wrap (x.1+bX))
def yL (r:Realm)(b:Bill)(seen bX:Int):Int×Int:=
 if iV r≠0\/aC b.city r.cities.length=false\/aC b.pay r.cities.length=false\/fc b.day=false then(0,1)
 else if((b.tenor.kind<0\/5<=b.tenor.kind)\/b.tenor.unit<0)\/2<=b.tenor.unit then(0,1)
 else if((¬seen=-1/\fc seen=false)\/bX<0)\/20000<bX then(0,1)
 else if OP b.tenor=true/\seen=-1 then(0,4)
 else MB r b.pay bX (yg r.usances b seen)
def akX (r:Realm)(hr:RightD r)(b:Bill)(seen bX:Int):aj T 41 [aV r,ed b,.int seen,.int bX] (.tup [.int (yL r b seen bX).1,.int (yL r b seen bX).2]):=by
 have Tj:D.agg [D.int b.tenor.kind,D.int b.tenor.n,D.int b.tenor.unit]=pH b.tenor:=rfl;have oy:=Xq r hr.small;obtain⟨G,hG⟩:∃G,G=yL r b seen bX:=⟨_,rfl⟩
 rw[<-hG];unfold yL at hG;refine .of_tree rfl ab0 aky ?_;simp[Pf];refine⟨_,oy,?_⟩;by_cases h0:iV r=0
 case neg=>simp[h0] at hG ⊢;simp[hG]
 simp[h0] at hG ⊢;refine⟨_,Mx r b.city,?_⟩;cases h1:aC b.city r.cities.length
 .simp[h1] at hG ⊢;simp[hG]
 simp[h1] at hG ⊢;refine⟨_,Mx r b.pay,?_⟩;cases h2:aC b.pay r.cities.length
 .simp[h2] at hG ⊢;simp[hG]
 simp[h2] at hG ⊢;refine⟨_,C6 b.day,?_⟩;cases h3:fc b.day
 .simp[h3] at hG ⊢;simp[hG]
 simp[h3] at hG ⊢;have hp:0<=b.pay/\b.pay<r.cities.length:=by simpa [aC] using h2
 by_cases h4:((b.tenor.kind<0\/5<=b.tenor.kind)\/b.tenor.unit<0)\/2<=b.tenor.unit
 .rw[if_pos h4] at hG ⊢;simp[hG]
 rw[if_neg h4] at hG ⊢;have fin:G=MB r b.pay bX (yg r.usances b seen)->0<=bX->bX<=20000->∃d,aj T 80 [aV r,ed b,D.int seen] d/\
  if(d.tget 1).i=0 then ∃d1,aj T 78 [d.tget 0] d1/\(if d1.b=false\/100000<i64.wrap ((d.tget 0).i+bX) then 0=G.1/\3=G.2 else
        ∃d2,aj T 81 [aV r,D.int b.pay,D.int (i64.wrap ((d.tget 0).i+bX))] d2/\d2.tget 0=D.int G.1/\d2.tget 1=D.int G.2)
  else 0=G.1/\d.tget 1=D.int G.2:=by
  intro hG zb kO;refine⟨_,aml r hr b seen,?_⟩;unfold MB at hG;generalize yg r.usances b seen=B at*;obtain⟨n,e⟩:=B;by_cases he:e=0
  .simp[he] at hG ⊢;refine⟨_,C6 n,?_⟩;cases hd:fc n
   .simp[hd] at hG ⊢;simp[hG]
   have gy:0<=n/\n<=100000:=by simpa [fc] using hd
   have hw:i64.wrap (n+bX)=n+bX:=aQ (by omega);simp[hd,hw] at hG ⊢;by_cases hle:100000<n+bX
   .rw[if_pos hle] at hG ⊢;simp[hG]
   .rw[if_neg hle] at hG ⊢;refine⟨_,akc r hr.halts b.pay (n+bX) hp hr.cities (by omega) (by omega),?_⟩;simp[hG]
  .simp[he] at hG ⊢;simp[hG]
 by_cases hs:seen=-1
 .simp[hs] at fin hG ⊢;by_cases h5:bX<0\/20000<bX
  .rw[if_pos h5] at hG ⊢;simp[hG]
  rw[if_neg h5] at hG ⊢;refine⟨_,Jp b.tenor,?_⟩;cases h6:OP b.tenor
  .simp[h6] at hG ⊢;exact fin hG (by omega) (by omega)
  .simp[h6] at hG ⊢;simp[hG]
 .simp[hs] at fin hG ⊢;refine⟨_,C6 seen,?_⟩;cases hk:fc seen
  .simp[hk] at hG ⊢;simp[hG]
  simp[hk] at hG ⊢;by_cases h5:bX<0\/20000<bX
  .rw[if_pos h5] at hG ⊢;simp[hG]
  rw[if_neg h5] at hG ⊢;exact⟨⟨_,Jp b.tenor⟩,fin hG (by omega) (by omega)⟩
def an3 {r:Realm}(hr:RightD r)(b:Bill)(seen bX:Int):vQ r b seen bX=yL r b seen bX:=by
 have h:=(aa1 r hr b seen bX).det (akX r hr b seen bX);simp at h;exact Prod.ext h.1 h.2
instance (a b:Int):Decidable (akj a b):=by unfold akj;infer_instance
def aAv {r:Realm}(hh:xP r)(city:Int){d:Int}(h0:0<=d)(hd:d<=100001):(vt r city d).2=0->0<=(vt r city d).1/\(vt r city d).1<=100000:=by
 unfold vt;generalize r.cities.getD city.toNat default=c;generalize gG r city=o;have key:∀(n:Nat) (d:Int),0<=d->d<=100001->(100002-d).toNat<=n->(ua r c o n d).2=0->0<=(ua r c o n d).1/\(ua r c o n d).1<=100000:=by
  intro n
  induction n with
  |zero=>intro d h0 h1 h2;omega
  |succ n ih=>
   intro e h1 h2 h3;have CY:=XM hh o (100002-e).toNat e h2;rw[akb];change e<=jZ r o e/\jZ r o e<=100001 at CY;generalize jZ r o e=x at*;have pR:=agz (c:=c) (d:=x);by_cases he:(jA c x).2=0
   .obtain⟨g1,g2,g3⟩:=pR he;rw[if_neg (by simp[he])];by_cases hy:(jA c x).1=x
    .rw[if_pos hy];intro _;have e1:((x,0):Int×Int).1=x:=rfl;omega
    .rw[if_neg hy];exact ih _ (by omega) (by omega) (by omega)
   .rw[if_pos he];intro h;cases h
 exact key _ d h0 hd (aZ _)
def axg {r:Realm}(hr:RightD r)(forum:Int)(f:File)(day:Int):eI r forum f day=-1\/(0<=eI r forum f day/\eI r forum f day<=100000):=by
 unfold eI;by_cases ay:(bT f day).signs=[]
 .rw[if_pos ay];exact .inl rfl
 rw[if_neg ay,an3 hr];generalize rZ (bT f day)=sn;generalize max (va (nM r forum 6 (bT f day) day)) 0=g;by_cases he:(yL r f.bill sn g).2=0
 case neg=>rw[if_pos he];exact .inl rfl
 rw[if_neg (by simp[he])];right;unfold yL at he ⊢;split at he
 .cases he
 rename_i c1;rw[if_neg c1];split at he
 .cases he
 rename_i c2;rw[if_neg c2];split at he
 .cases he
 rename_i c3;rw[if_neg c3];split at he
 .cases he
 rename_i c4;rw[if_neg c4];generalize yg r.usances f.bill sn=B at*;unfold MB at he ⊢;split at he
 .rename_i hb;exact absurd he hb
 rename_i c5;rw[if_neg c5];split at he
 .cases he
 rename_i c6;rw[if_neg c6];have hd:0<=B.1/\B.1<=100000:=by
  have:¬fc B.1=false:=λe=>c6 (.inl e);simpa [fc] using this
 have hw:i64.wrap (B.1+g)=B.1+g:=aQ (by omega);rw[hw] at he c6 ⊢;exact aAv hr.halts f.bill.pay (by omega) (by omega) he
def adx {r:Realm}(h:iV r=0):Ps r/\AX r:=by
 unfold iV at h;rw[OM] at h;refine⟨λx hx=>?_,λg hg=>?_⟩
 .obtain⟨k,hk,rfl⟩:=fw hx;have h1:=h (eL (eW r) 200 (om r)) (by simp);unfold eL at h1;split at h1
  .cases h1
  have h2:=Ry.1 h1 k (by simpa [eW] using hk);have h3:=(Cr h2).2;simp[om,aC,hk] at h3;omega
 .obtain⟨k,hk,rfl⟩:=fw hg;have h1:=h (sV r) (by simp);unfold sV at h1;split at h1
  .cases h1
  split at h1
  .rename_i h2;have h3:=(yd.1 h2) k hk;simp[vW,aC,hk] at h3;omega
  .cases h1
def ayp {r:Realm}{f:File}(G:Good r f)(hc:iV r=0)(hP:PaperOK r f)(forum day:Int):PayOK r (dG r forum f day):=by
 have de:=Li r forum f day;have rk:=G.few.signs;obtain⟨FX,mX⟩:=adx hc;have hS:=hP.sums.at_ day;have each:∀e,e∈qZ r forum f day->(0<=e.firm/\e.firm<r.firms.length)/\0<=e.sum/\e.sum<=1099511627776:=by
  intro e he;unfold qZ at he;obtain⟨k,hk,rfl⟩:=cd.1 he;have bn:k<(bT f day).signs.length:=fR.1 hk;have h1:=acY (v:=gF r forum f day) hS k (by omega) (by show(k:Int)<((bT f day).signs.length:Int);omega);refine⟨?_,by omega,h1.2⟩;have hm:(bT f day).signs[k]∈f.signs:=(Ji _).subset (bQ bn);obtain⟨i,hi,e⟩:=fw hm;have h2:=(hP.sign i hi).who;have h3:(jK (gF r forum f day) k).firm=((bT f day).signs[k]).who:=by
   show((bT f day).signs.getD (k:Int).toNat default).who=_;simp[bn]
  rw[h3,<-e];exact h2
 refine⟨λe he=>(each e (dK.1 he).1).1,λe he=>(each e (dK.1 he).1).2,FX,mX,?_⟩;exact fb (kJ _ _) (by omega)
def anH {r:Realm}(hr:RightD r){f:File}(h:PaperOK r f)(forum day:Int):eI r forum f day=-1\/(0<=eI r forum f day/\eI r forum f day<=100000/\0<=day):=by
 rcases axg hr forum f day with e|⟨h0,h1⟩
 .exact .inl e
 .have ay:(bT f day).signs≠[]:=λe=>by unfold eI at h0;rw[if_pos e] at h0;omega
  obtain⟨s,hs⟩:=List.exists_mem_of_ne_nil _ ay;have hp:=cM.1 List.all_takeWhile s hs;obtain⟨i,hi,rfl⟩:=fw ((Ji _).subset hs);have h2:=(h.sign i hi).day.1;have h3:=adk h i hi;simp at hp;exact .inr ⟨h0,h1,by omega⟩
def afQ {r:Realm}(forum:Int){f g:File}(h:MoreF f g)(day:Int){e:Effect}(he:e∈dG r forum f day):∃e',e'∈dG r forum g day/\e.sum<=e'.sum/\mT r e'=mT r e:=by
 obtain⟨hm,hl⟩:=dK.1 he;unfold qZ at hm;obtain⟨k,hk,rfl⟩:=cd.1 hm;have ho:=axZ r forum h.same day;have lN:=(h.same.at_ day).signs;have F9:MoreF (gF r forum f day).file (bT g day):=h.at_ day;have LX:(gF r forum f day).form=0\/(gF r forum f day).form=1\/(gF r forum f day).form=2:=IW _;have mX:=aoP F9 (k:Int) LX;have arW:(jK (eu (gF r forum f day) (bT g day)) k).firm=(jK (gF r forum f day) k).firm:=by
  show((bT g day).signs.getD _ default).who=((bT f day).signs.getD _ default).who;rw[lN]
 have asv:(jK (eu (gF r forum f day) (bT g day)) k).kind=(jK (gF r forum f day) k).kind:=by
  show((bT g day).signs.getD _ default).kind=((bT f day).signs.getD _ default).kind;rw[lN]
 simp[RK] at mX;obtain⟨⟨⟨g1,g2⟩,g3⟩,g4⟩:=mX;refine⟨jK (gF r forum g day) k,?_,?_,?_⟩
 .refine dK.2 ⟨cd.2 ⟨k,?_,rfl⟩,?_⟩
  .rw[ho];have:(eu (gF r forum f day) (bT g day)).file.signs=(gF r forum f day).file.signs:=lN;rw[this];exact hk
  .rw[ho];simp[Ug] at hl ⊢;rw[asv,<-g4];refine⟨?_,hl.2⟩;rcases g1 with g1|g1
   .omega
   .rw[g1];exact hl.1
 .rw[ho];exact g3
 .rw[ho];unfold mT;rw[arW]
def aEq {r:Realm}(forum:Int){f g:File}(h:MoreF f g)(day:Int)(q:Quote):(ln r forum f day q).1<=(ln r forum g day q).1/\(ln r forum f day q).2=(ln r forum g day q).2:=by
 unfold ln;by_cases hc:lf q≠0\/¬uW r forum
 .rw[if_pos hc,if_pos hc];exact⟨l7 _,rfl⟩
 .rw[if_neg hc,if_neg hc];have hQ:=(Hn (vB λe=>hc (.inl e))).2.2;exact⟨aEp hQ λe he=>afQ forum h day he,rfl⟩
def ayK {r:Realm}(forum:Int){f g:File}(h:MoreF f g)(day:Int)(q:Quote):(fa r forum f day q).1<=(fa r forum g day q).1/\(fa r forum f day q).2=(fa r forum g day q).2:=by
 have hw:=aEq (r:=r) forum h day q;unfold fa;rw[<-hw.2,MM r forum h.same];rcases Pm r forum f day q with e|⟨hq,ho,e⟩
 .rw[e];simp
 .obtain⟨p0,p1,hQ⟩:=Hn hq;have h0:=aaN (r:=r) (l:=dG r forum f day) hQ;rw[e] at hw ⊢;simp only at hw ⊢;rw[if_neg (by simp),if_neg (by simp)];exact ayJ h0 p0 hw.1
structure Pledge where
 price:Int
 due:Int
 signs:Int
 deriving DecidableEq,Inhabited
structure PTerms where
 loan:Int
 haircut:Int
 days:Int
 signs:Int
 price:Int
def q6 (p:Pledge):D:=.agg [.int p.price,.int p.due,.int p.signs]
def yO (t:PTerms):D:=.agg [.int t.loan,.int t.haircut,.int t.days,.int t.signs,.int t.price]
def Ha (l:List Pledge):D:=.list (l.map q6)
@[simp] def aKS (l:List Pledge):(Ha l).l=l.map q6:=rfl
def PTerms.OK (t:PTerms):Prop:=aX t.loan/\aX t.haircut/\aX t.days/\aX t.signs/\aX t.price
def ayO {d:D}(h:DTy (.agg [I,I,I,I,I]) d):∃x:PTerms,d=yO x/\x.OK:=by
 obtain⟨ds,rfl,hs⟩:=h.agg_inv;obtain⟨d0,ds,rfl,h0,hs⟩:=hs.cons_inv;obtain⟨d1,ds,rfl,h1,hs⟩:=hs.cons_inv;obtain⟨d2,ds,rfl,h2,hs⟩:=hs.cons_inv;obtain⟨d3,ds,rfl,h3,hs⟩:=hs.cons_inv;obtain⟨d4,ds,rfl,h4,hs⟩:=hs.cons_inv;obtain rfl:=hs.nil_inv;obtain⟨n0,rfl,b0⟩:=h0.i64_inv;obtain⟨n1,rfl,b1⟩:=h1.i64_inv;obtain⟨n2,rfl,b2⟩:=h2.i64_inv;obtain⟨n3,rfl,b3⟩:=h3.i64_inv;obtain⟨n4,rfl,b4⟩:=h4.i64_inv;exact⟨⟨n0,n1,n2,n3,n4⟩,rfl,⟨b0,b1,b2,b3,b4⟩⟩
def Ag (t:PTerms):Bool:=wi t.loan 0 1099511627776&&wi t.price 0 1099511627776&&wi t.haircut 0 1000&&wi t.days 0 20000&&wi t.signs 0 40
def tH (p:Pledge):Bool:=wi p.price 0 1099511627776&&wi p.due 0 100000&&wi p.signs 0 40
def vg (n m:Int):aj T 52 [.int n,.int m] (.bool (wi n 0 m)):=by
 refine .of_tree rfl abT aCh ?_;simp[YS,wi];by_cases h:0<=n<;>simp[h]
def ayP (t:PTerms):aj T 51 [yO t] (.bool (Ag t)):=by
 refine .of_tree rfl abS aCg ?_;have w1:=vg t.loan 1099511627776;have w2:=vg t.price 1099511627776;have w3:=vg t.haircut 1000;have w4:=vg t.days 20000;have w5:=vg t.signs 40;unfold Ag;simp[YR,yO];refine⟨_,w1,?_⟩;cases wi t.loan 0 1099511627776
 .simp
 simp;refine⟨_,w2,?_⟩;cases wi t.price 0 1099511627776
 .simp
 simp;refine⟨_,w3,?_⟩;cases wi t.haircut 0 1000
 .simp
 simp;refine⟨_,w4,?_⟩;cases wi t.days 0 20000
 .simp
 simp;exact w5
def ayw (p:Pledge):aj T 55 [q6 p] (.bool (tH p)):=by
 refine .of_tree rfl abR aCf ?_;have w1:=vg p.price 1099511627776;have w2:=vg p.due 100000;have w3:=vg p.signs 40;unfold tH;simp[YQ,q6];refine⟨_,w1,?_⟩;cases wi p.price 0 1099511627776
 .simp
 simp;refine⟨_,w2,?_⟩;cases wi p.due 0 100000
 .simp
 simp;exact w3
def alh (p:Pledge):aj T 54 [q6 p] (.bool (!tH p)):=by
 refine .of_tree rfl abP aB5 ?_;simp[YN,q6];exact⟨_,ayw p,rfl⟩
def ak0 (l:List Pledge)(f:Nat)(caps:List D)(g:Nat->Bool)(hg:∀k (hk:k<l.length),aj T f (q6 l[k]::caps) (.bool (g k)))(hl:l.length<=4294967296):
 aj T 91 [Ha l,.clo f caps] (.int (ml l.length g)):=by
 refine .of_tree rfl abY aDl ?_;simp[Z0];refine .scan l.length (λk=>g k=false) (λk=>[.int 0,.int k]) (λ_=>[]) ?_ (λk hk hj ho=>?_) (λk hk hj ho=>?_) (λhj=>?_)
 .simp
 .have hw:=bq hk hl;simp[Xe,Iq,hk,hw];refine⟨_,_,⟨rfl,rfl⟩,_,hg k hk,?_⟩;simp[ho,hw]
 .have he:=GN hk (by simpa using ho) hj;simp[Xe,Iq,hk,he];refine⟨_,_,⟨rfl,rfl⟩,_,hg k hk,?_⟩;simp[ho]
 .have he:=GM hj;simp[Xe,Iq,he]
def akR (l:List Pledge)(f:Nat)(caps:List D)(g:Nat->Bool)(hg:∀k (hk:k<l.length),aj T f (q6 l[k]::caps) (.bool (g k)))(hl:l.length<=4294967296):
 aj T 53 [Ha l,.clo f caps] (.bool ((List.range l.length).any g)):=by
 refine .of_tree rfl abW aDf ?_;simp[ZU];refine⟨_,ak0 l f caps g hg hl,?_⟩;have:=My l.length g;simp[<-this]
def qe (t:PTerms)(p:Pledge)(day:Int):Int:=if Ag t&&wi day 0 100000&&tH p then 0 else 1
def ali (t:PTerms)(p:Pledge)(day:Int):aj T 20 [yO t,Ha [p],.int day] (.int (qe t p day)):=by
 refine .of_tree rfl abO aB6 ?_
 have h:=akR [p] 54 [] (λ_=> !tH p) (λk hk=>by
  have e:k=0:=by simpa using hk
  subst e;exact alh p) (by simp)
 have e:(List.range [p].length).any (λ_=> !tH p)= !tH p:=by simp
 rw[e] at h;unfold qe;simp[YM,Ha];refine⟨_,ayP t,?_⟩;cases Ag t
 .simp
 simp;refine⟨_,vg day 100000,?_⟩;cases wi day 0 100000
 .simp
 simp;refine⟨_,h,?_⟩;cases tH p<;>simp
def vx (t:PTerms)(p:Pledge)(day:Int):Int:=
 if qe t p day≠0\/p.price<t.price\/p.signs<t.signs\/p.due<day\/day+t.days<p.due then 0 else p.price*(1000-t.haircut)/1000
def abz (t:PTerms)(p:Pledge)(day:Int):aj T 13 [yO t,q6 p,.int day] (.int (vx t p day)):=by
 refine .of_tree rfl abQ aCd ?_;have hc:=ali t p day;simp[YP,yO,q6];refine⟨_,hc,?_⟩;unfold vx;by_cases h0:qe t p day=0
 .obtain⟨⟨d0,d1⟩,⟨s0,s1⟩,⟨c0,c1⟩,p0,p1⟩:(0<=day/\day<=100000)/\(0<=t.days/\t.days<=20000)/\(0<=t.haircut/\t.haircut<=1000)/\0<=p.price/\p.price<=1099511627776:=by
   unfold qe Ag tH at h0;split at h0
   .rename_i h;simp only[au,wi,decide_eq_true_eq] at h;omega
   .cases h0
  have m0:=uk p0 (show 0<=1000-t.haircut by omega);have m1:p.price*(1000-t.haircut)<=1099511627776*1000:=Px p1 (by omega) (by omega) (by omega);rw[h0,aQ (n:=day+t.days) (by omega),aQ (n:=1000-t.haircut) (by omega),aQ (n:=p.price*(1000-t.haircut)) (by omega),AZ m0,aQ (by omega)];by_cases a1:p.price<t.price<;>by_cases a2:p.signs<t.signs<;>by_cases a3:p.due<day<;>by_cases a4:day+t.days<p.due<;>simp[a1,a2,a3,a4]
 .simp[h0]
def aD7 (t:PTerms){p p':Pledge}(day:Int)(hp:0<=p.price)(h1:p.price<=p'.price)(h2:p.due=p'.due)(h3:0<=p.signs)(h4:p.signs<=p'.signs)(h5:p'.price<=1099511627776)(h6:p'.signs<=40):vx t p day<=vx t p' day:=by
 unfold vx;have zk:∀q:Pledge,0<=q.price->qe t q day=0->0<=q.price*(1000-t.haircut)/1000:=by
  intro q hq hc;have:wi t.haircut 0 1000=true:=by
   unfold qe Ag at hc;split at hc
   .rename_i h;simp only[au] at h;exact h.1.1.1.1.2
   .cases hc
  simp[wi] at this;exact Pw (uk hq (by omega)) (by decide)
 by_cases hA:qe t p day≠0\/p.price<t.price\/p.signs<t.signs\/p.due<day\/day+t.days<p.due
 .rw[if_pos hA];split
  .exact l7 _
  .rename_i hB;exact zk p' (by omega) (vB λe=>hB (.inl e))
 .rw[if_neg hA];have hc:qe t p day=0:=vB λe=>hA (.inl e);have LO:qe t p' day=0:=by
   unfold qe tH at hc ⊢;split at hc
   .rename_i h;simp only[au,wi,decide_eq_true_eq] at h;rw[if_pos];simp only[au,wi,decide_eq_true_eq];refine⟨h.1,⟨⟨by omega,by omega⟩,by omega,by omega⟩,by omega,by omega⟩
   .cases hc
  rw[if_neg (by rintro(h|h|h|h|h)<;>first|exact h LO|(refine hA ?_;omega))];have hh:wi t.haircut 0 1000=true:=by
   unfold qe Ag at hc;split at hc
   .rename_i h;simp only[au] at h;exact h.1.1.1.1.2
   .cases hc
  simp[wi] at hh;exact Pv (by decide) (ak7 h1 (by omega))
def aqS {r:Realm}{l l':List Effect}{s:Int}(h:∀e,e∈l->∃e',e'∈l'/\e.sum<=e'.sum/\mT r e'=mT r e):(dN r l s).length<=(dN r l' s).length:=
 (zD (vX r l s) (vX r l' s) λg hg=>by
   obtain⟨e,he,h1,h2⟩:=sW.1 hg;obtain⟨e',oA,h3,h4⟩:=h e he;exact sW.2 ⟨e',oA,by omega,by rw[h4,h2]⟩).length_le
end Rm
