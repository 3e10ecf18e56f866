/-
  Shared texts of this claim.
-/
import Derived.Test.YtibbcfbmjlehcaaGreatDoorGAQ
set_option linter.defProp false
set_option linter.unusedSimpArgs false
set_option linter.unusedVariables false
noncomputable section
open Go.IntKind (i64)
namespace Rm
open Go Go.Proofs Cx
def TG (l:List Int):(l.map D.int).map D.i=l:=by rw[oe];exact xZ _
def ayk (l:List Int)(h:l.length<=4294967296):ah T 63 [.none,ints l] (.tup [.tup [],ints (l0 l)]):=by
 refine .of_ext (g:=λ_ ds=>IT ds) rfl ⟨0,λ_ _=>?_⟩;show(if(l.map D.int).length<=4294967296 then some (D.tup [.tup [],ints (l0 ((l.map D.int).map D.i))]) else none)=_;rw[TG,if_pos (by simpa using h)]
def amP (l:List Int)(h:l.length<=4294967296):ah T 64 [ints l] (ints (kB l)):=by
 refine .of_ext (g:=λ_ ds=>Lj ds) rfl ⟨0,λ_ _=>?_⟩;show(if(l.map D.int).length<=4294967296 then some (ints (kB ((l.map D.int).map D.i))) else none)=_;rw[TG,if_pos (by simpa using h)]
def amA (l:List Int)(h:l.length<=4294967296):ah T 60 [ints l] (ints l):=by
 refine .of_ext (g:=λ_ ds=>Lf ds) rfl ⟨0,λ_ _=>?_⟩;show(if(l.map D.int).length<=4294967296 then some (D.list (l.map D.int)) else none)=_;rw[if_pos (by simpa using h)];rfl
def Jf (r:Realm)(l:List Effect):Prop:=∀e,e∈l->0<=e.firm/\e.firm<r.firms.length
def tK (r:Realm)(l:List Effect)(s:Int):List Int:=(l.filter λe=>decide (s<=e.sum)).map (qf r)
def ap4 (r:Realm)(l:List Effect)(e:Effect)(s:Int):tK r (l++[e]) s=tK r l s++if s<=e.sum then[qf r e] else[]:=by
 unfold tK;rw[Px,pR]
 congr 1
 by_cases h:s<=e.sum<;>simp[List.filter,h]
def ac3 (r:Realm)(l:List Effect)(s:Int):(tK r l s).length<=l.length:=by
 unfold tK;rw[ed];exact lL _ _
def ac1 (r:Realm)(l:List Effect)(s:Int)(hf:Jf r l)(hl:l.length<=1000):ah T 31 [aQ r,oJ l,.int s] (ints (jf r l s)):=by
 refine zyw 108 azU ?_;simp[Yu];refine aL.forRounds l.length (λk=>[.none,.int k]) (λk=>[ints (tK r (l.take k) s)]) ?_ (λk hk=>?_) ?_
 .simp[tK,ints]
 .have hw:=bq hk (by omega);obtain⟨f1,f2⟩:=hf _ (bR hk);rw[iX hk,ap4];have F3:=ac3 r (l.take k) s;rw[dG] at F3;generalize tK r (l.take k) s=G at*;simp[ajf,Oh,hk,hw];generalize l[k]=e at*;have af:e.firm.toNat<r.firms.length:=by omega
  have hg:qf r e=r.firms[e.firm.toNat].group:=by unfold qf;simp[af]
  by_cases h:s<=e.sum
  .simp[h,hg,f1,f2,af];exact⟨by omega,by simp[ints]⟩
  .simp[h]
 .rw[Ei];have F3:=ac3 r l s;have hG:jf r l s=kB (l0 (tK r l s)):=rfl;rw[hG];generalize tK r l s=G at*;have hs:=ayk G (by omega);have hc:=amP (l0 G) (by rw[Mx];omega);simp[ajf,Oh];refine⟨_,hs,?_⟩;simp;exact hc
def Eb (r:Realm)(gs:List Int):Prop:=∀g,g∈gs->0<=g/\g<r.groups.length
def xT (r:Realm):Prop:=∀g,g∈r.groups->0<=g.grade/\g.grade<10
def xT.at {r:Realm}(h:xT r){g:Int}(h0:0<=g)(h1:g<r.groups.length):0<=fD r g/\fD r g<10:=by
 have af:g.toNat<r.groups.length:=by omega
 unfold fD;rw[aF,aX af];exact h _ (bR af)
def RP (r:Realm)(g:Int)(h0:0<=g)(h1:g<r.groups.length):dQ (aQ r) (.int g)=fD r g:=by
 have af:g.toNat<r.groups.length:=by omega
 unfold dQ fD;show((((groups r.groups).l.getD g.toNat .none).c 0).i:Int)=_;rw[show(groups r.groups).l=r.groups.map tB from rfl,aF,cm,aX af,aF,aX af];rfl
def rq (r:Realm)(gs:List Int):List Int:=(gO (dQ (aQ r)) (gs.map D.int)).map D.i
def QU (r:Realm)(gs:List Int):(rq r gs).Perm gs:=by
 have:=(sT (dQ (aQ r)) (gs.map D.int)).map D.i
 rwa [TG] at this
def alX (r:Realm)(gs:List Int):D.list (gO (dQ (aQ r)) (gs.map D.int))=ints (rq r gs):=by
 unfold rq ints;rw[oe]
 congr 1
 conv=>lhs;rw[<-xZ (gO (dQ (aQ r)) (gs.map D.int))]
 refine uG λx hx=>?_;obtain⟨g,_,rfl⟩:=bY.1 ((sT _ _).mem_iff.1 hx);rfl
def alY (r:Realm){gs:List Int}(h:Eb r gs):((rq r gs).map (fD r)).Pairwise (·<=·):=by
 unfold rq;rw[oe,Jn];refine(ajX (dQ (aQ r)) (gs.map D.int)).imp_of_mem λ{a b} ha hb my=>?_;obtain⟨x,hx,rfl⟩:=bY.1 ((sT _ _).mem_iff.1 ha);obtain⟨y,hy,rfl⟩:=bY.1 ((sT _ _).mem_iff.1 hb);rw[RP r x (h x hx).1 (h x hx).2,RP r y (h y hy).1 (h y hy).2] at my;exact my
def ayj (r:Realm)(gs:List Int)(hg:Eb r gs)(hr:xT r)(hl:gs.length<=4294967296):ah T 61 [.none,.clo 62 [.ref (aQ r)],ints gs] (.tup [.tup [],ints (rq r gs)]):=by
 have aK:(gs.map D.int).all (zF (aQ r))=true:=by
  rw[cQ];intro x hx;obtain⟨g,vc,rfl⟩:=bY.1 hx;obtain⟨h0,h1⟩:=hg g vc;have h2:=hr.at h0 h1;have e:((aQ r).c 2).l.length=r.groups.length:=by show(r.groups.map tB).length=_;simp
  simp only[zF,ao,decide_eq_true_eq,RP r g h0 h1,e];have e2:(D.int g).i=g:=rfl;rw[e2];exact⟨⟨h0,by omega⟩,by omega⟩
 refine .of_ext (g:=λ_ ds=>OU ds) rfl ⟨0,λ_ _=>?_⟩;show(if 62=62/\(gs.map D.int).length<=4294967296/\(gs.map D.int).all (zF (aQ r))=true then some (D.tup [.tup [],.list (gO (dQ (aQ r)) (gs.map D.int))]) else none)=_;rw[if_pos ⟨rfl,by simpa using hl,aK⟩,alX]
def amm (r:Realm)(gs:List Int)(ps:List Ratio):om ps (gw ((rq r gs).map (fD r))) 10=ru r gs ps:=by
 unfold ru;have e:gw ((rq r gs).map (fD r))=gw (gs.map (fD r)):=by
  funext g;exact amE ((QU r gs).map _) g
 rw[e]
def acU {ps:List Ratio}(hq:mm ps):∀(l:List Int),(∀x,x∈l->0<=x/\x<10)->∀n:Int,0<=n/\n<=1000000000->0<=l.foldl (λn x=>kf n (ps.getD x.toNat default)) n/\l.foldl (λn x=>kf n (ps.getD x.toNat default)) n<=1000000000
 |[],_,n,h=>h
 |x::l,hx,n,h=>by
  have hp:=hq.at (g:=x.toNat) (by have:=hx x (by simp);omega);exact acU hq l (λy hy=>hx y (by simp[hy])) _ ⟨IU hp h.1,Jj (Xo hp h.1) h.2⟩
def abU (r:Realm)(gs:List Int)(q:Quote)(hg:Eb r gs)(hr:xT r)(hq:mm q.fails)(hl:gs.length<=1000000):ah T 30 [aQ r,ints gs,lP q] (.int (ru r gs q.fails)):=by
 refine zyw 9 azT ?_;simp[Yt];refine⟨_,amA gs (by omega),?_⟩;refine⟨_,ayj r gs hg hr (by omega),?_⟩;have FN:(rq r gs).length=gs.length:=(QU r gs).length_eq;have Ci:Eb r (rq r gs):=λg h=>hg g ((QU r gs).mem_iff.1 h)
 have kG:=apJ q.fails (alY r hg) (λx hx=>by
  obtain⟨g,vc,rfl⟩:=bY.1 hx;exact hr.at (Ci g vc).1 (Ci g vc).2)
 rw[amm,aaS] at kG;rw[<-kG];generalize rq r gs=L at*
 have zb:∀k,0<=(L.take k).foldl (λn g=>kf n (q.fails.getD (fD r g).toNat default)) 1000000000/\(L.take k).foldl (λn g=>kf n (q.fails.getD (fD r g).toNat default)) 1000000000<=1000000000:=λk=>by
  have:=acU hq ((L.take k).map (fD r)) (λx hx=>by
   obtain⟨g,vc,rfl⟩:=bY.1 hx;exact hr.at (Ci g (aaY vc)).1 (Ci g (aaY vc)).2) 1000000000 (by omega)
  rw[aaS] at this;exact this
 simp;refine aL.forRounds L.length (λk=>[.int ((L.take k).foldl (λn g=>kf n (q.fails.getD (fD r g).toNat default)) 1000000000),.int k]) (λ_=>[]) ?_ (λk hk=>?_) ?_
 .simp
 .have hw:=bq hk (by omega);obtain⟨g0,g1⟩:=Ci _ (bR hk);have ns:=hr.at g0 g1;have hn:=zb k;rw[iX hk,s9];simp only[vP,List.foldl_nil];generalize (L.take k).foldl (λn g=>kf n (q.fails.getD (fD r g).toNat default)) 1000000000=n at*;simp[aje,Og,hk,hw];generalize L[k]=g at*;have af:g.toNat<r.groups.length:=by omega
  have hga:fD r g=r.groups[g.toNat].grade:=by unfold fD;simp[af]
  have aG1:q.fails.length=10:=hq.1;have ad7:(fD r g).toNat<q.fails.length:=by omega
  have hp:=hq.at (g:=(fD r g).toNat) (by omega);have oY:q.fails.getD (fD r g).toNat default=q.fails[(fD r g).toNat]:=by simp[ad7]
  rw[oY] at hp;have gZ:(((Option.map tB r.groups[g.toNat]?).getD D.none).c 0).i=fD r g:=by rw[hga];simp[af]
  rw[gZ];simp only[aX ad7,kV,kU];generalize q.fails[(fD r g).toNat]=p at*;obtain⟨p1,p2,p3,p4⟩:=hp;have m1:n*p.num<=1000000000*1073741824:=aaK (by omega) (by omega) (by omega) (by omega);have m0:0<=n*p.num:=AG hn.1 p3;have hs:=IU ⟨p1,p2,p3,p4⟩ hn.1;have dU:=Xo ⟨p1,p2,p3,p4⟩ hn.1;refine⟨⟨g0,g1⟩,⟨ns.1,by omega⟩,?_,?_⟩
  .simp;omega
  .simp;rw[aR (n:=n*p.num) (by omega),aR (n:=n*p.num+p.den) (by omega),aR (n:=n*p.num+p.den-1) (by omega),Ec (by omega)];exact aR (by unfold kf at hs dU;omega)
 .simp[aje,Og]
def Ro (d:D):Effect:=⟨(d.c 0).i,(d.c 1).i,(d.c 2).i,(d.c 3).i,(d.c 4).i,(d.c 5).i,(d.c 6).b⟩
def p6 (l:List Effect):List Effect:=(gO gP (l.map jT)).map Ro
def alZ (l:List Effect):D.list (gO gP (l.map jT))=oJ (p6 l):=by
 unfold p6 oJ;rw[oe]
 congr 1
 conv=>lhs;rw[<-xZ (gO gP (l.map jT))]
 refine uG λx hx=>?_;obtain⟨g,_,rfl⟩:=bY.1 ((sT _ _).mem_iff.1 hx);rfl
def al0 (l:List Effect):(p6 l).Perm l:=by
 have:=(sT gP (l.map jT)).map Ro;rw[oe] at this;have e:l.map (Ro∘jT)=l:=xZ _
 rwa [e] at this
def abF (l:List Effect):(p6 l).Pairwise λa b=>a.sum<=b.sum:=by
 unfold p6;rw[Jn];refine(ajX gP (l.map jT)).imp_of_mem λ{a b} ha hb my=>?_;exact my
def aba (l:List Effect):Prop:=∀e,e∈l->0<=e.sum/\e.sum<=1099511627776
def ayh (l:List Effect)(hs:aba l)(hl:l.length<=4294967296):ah T 28 [.none,.clo 29 [],oJ l] (.tup [.tup [],oJ (p6 l)]):=by
 have aK:(l.map jT).all C1=true:=by
  rw[cQ];intro x hx;obtain⟨e,he,rfl⟩:=bY.1 hx;have:=hs e he;simp only[C1,ao,decide_eq_true_eq];exact this
 refine .of_ext (g:=λ_ ds=>OT ds) rfl ⟨0,λ_ _=>?_⟩;show(if 29=29/\(l.map jT).length<=4294967296/\(l.map jT).all C1=true then some (D.tup [.tup [],.list (gO gP (l.map jT))]) else none)=_;rw[if_pos ⟨rfl,by simpa using hl,aK⟩,alZ]
def Je (r:Realm):Prop:=∀f,f∈r.firms->0<=f.group/\f.group<r.groups.length
def ap0 {r:Realm}(FZ:Je r){l:List Effect}(hf:Jf r l)(s:Int):Eb r (jf r l s):=by
 intro g hg;obtain⟨e,he,_,rfl⟩:=wq.1 hg;obtain⟨h0,h1⟩:=hf e he;have af:e.firm.toNat<r.firms.length:=by omega
 unfold qf;rw[aF,aX af];exact FZ _ (bR af)
def apX (r:Realm)(l:List Effect)(s:Int):(jf r l s).length<=l.length:=by
 unfold jf;refine ff (aca _ _) ?_;rw[Mx,ed];exact lL _ _
structure PayOK (r:Realm) (l:List Effect):Prop where
 firms:Jf r l
 sums:aba l
 fg:Je r
 gr:xT r
 len:l.length<=1000
def aBN {r:Realm}{l:List Effect}{ps:List Ratio}(hq:mm ps):lI r l ps<=1099511627776:=by
 unfold lI;have:=Xr (f:=eR r l ps) (c:=1000000000) 1099511627776 λs _ _=>(zO hq l s).2;generalize gQ (eR r l ps) 1099511627776=S at*;omega
def wT (r:Realm)(forum:Int):Prop:=0<=forum/\forum<r.orders.length
instance (r:Realm) (forum:Int):Decidable (wT r forum):=by unfold wT;exact inferInstance
def jN (r:Realm)(forum:Int)(f:File)(day:Int)(q:Quote):Int×Int:=
 if kO q≠0\/¬wT r forum then(0,1) else(lI r (eY r forum f day) q.fails,0)
def Ju (r:Realm)(hr:Right r)(hd:RightD r)(forum:Int)(f:File)(day:Int)(hf:FewS f)(q:Quote)(vg:q.fails.length<=4294967296)(hp:PayOK r (eY r forum f day)):
 ah T 10 [aQ r,.int forum,bW f,.int day,lP q] (.tup [.int (jN r forum f day q).1,.int (jN r forum f day q).2]):=by
 refine zyw 12 azR ?_;simp[Ys];refine⟨_,Pq q vg,?_⟩;by_cases hq:kO q=0
 case neg=>
  simp[hq,jN]
  try exact⟨_,TI r forum⟩
 simp[hq];refine⟨_,TI r forum,?_⟩;by_cases ho:0<=forum/\forum<r.orders.length
 case neg=>
  have:¬wT r forum:=ho;simp[hq,ho,jN,this]
 have ji:wT r forum:=ho;obtain⟨_,_,hQ⟩:=Hs hq;simp[ho];refine⟨_,aft r hr hd forum f day hf,?_⟩;have hwE:jN r forum f day q=(lI r (eY r forum f day) q.fails,0):=by
  unfold jN;rw[if_neg (by simp[hq,ji])]
 rw[hwE];generalize eY r forum f day=l at*;simp;refine⟨_,ayh l hp.sums (by have:=hp.len;omega),?_⟩;have y8:=al0 l;have kG:=ako (r:=r) (l:=l) (l':=p6 l) hQ (λe=>y8.mem_iff) (abF l) hp.sums
 have hinv:=λk hk=>RJ (pay:=eR r l q.fails) (λs=>(zO hQ l s).1) (L:=(p6 l).map (·.sum)) (λs x wI h=>ah7 r l q.fails s x wI λy hy=>by
  obtain⟨e,he,rfl⟩:=bY.1 hy
  exact h _ (AL (y8.mem_iff.2 he))) (Jn.2 (abF l)) (λx hx=>by
   obtain⟨e,he,rfl⟩:=bY.1 hx;exact(hp.sums e (y8.mem_iff.1 he)).1) k hk
 have hlen:(p6 l).length=l.length:=y8.length_eq;have cY:∀e,e∈p6 l↔e∈l:=λe=>y8.mem_iff;have hfo:Jf r (p6 l):=λe he=>hp.firms e ((cY e).1 he);rw[<-kG];generalize p6 l=L at*;have aqf:L.length<=1000:=by have:=hp.len;omega
 refine aL.forRounds L.length (λk=>[.int (iK (eR r l q.fails) ((L.take k).map (·.sum))).1,.int (iK (eR r l q.fails) ((L.take k).map (·.sum))).2.1,.int (iK (eR r l q.fails) ((L.take k).map (·.sum))).2.2,.int k]) (λ_=>[]) ?_ (λk hk=>?_) ?_
 .simp[iK]
 .have hw:=bq hk (by omega);obtain⟨i1,i2,i3⟩:=hinv k (by simp;omega);rw[<-List.map_take] at i1 i2 i3;have aeB:=hp.sums _ ((cY _).1 (bR hk));rw[iX hk,pR];have GB:iK (eR r l q.fails) ((L.take k).map (·.sum)++[L[k]].map (·.sum))=xz (eR r l q.fails) (iK (eR r l q.fails) ((L.take k).map (·.sum))) L[k].sum:=by
   unfold iK;rw[s9];rfl
  rw[GB];have y7:=zO (r:=r) hQ l L[k].sum.toNat;have u7:(iK (eR r l q.fails) ((L.take k).map (·.sum))).2.2<=1099511627776:=by
   rcases i3 with e|e
   .rw[e];omega
   .obtain⟨x,hx,e2⟩:=bY.1 e;have:=(hp.sums x ((cY x).1 hx)).2;omega
  have Mq:=Xr (f:=eR r l q.fails) (c:=1000000000) (iK (eR r l q.fails) ((L.take k).map (·.sum))).2.2.toNat λs _ _=>(zO hQ l s).2;rw[<-i1.sum] at Mq;have r0:=i1.r0;have r1:=i1.r1;have b0:=i1.b0;generalize iK (eR r l q.fails) ((L.take k).map (·.sum))=w at*;obtain⟨whole,rest,below⟩:=w;simp only at*;have ns:=ac1 r L L[k].sum hfo aqf;have F3:=apX r L L[k].sum;have lb:=abU r (jf r L L[k].sum) q (ap0 hp.fg hfo _) hp.gr hQ (by omega);rw[apY cY] at ns lb;simp[ajd,Of,hk,hw];generalize L[k]=e at*;have hsn:((e.sum.toNat:Nat):Int)=e.sum:=by omega
  have oY:eR r l q.fails e.sum.toNat=1000000000-ru r (jf r l e.sum) q.fails:=by unfold eR;rw[hsn]
  rw[oY] at y7;unfold xz;by_cases hle:e.sum<=below
  .simp[hle]
  .rw[if_neg hle,oY];simp[hle];refine⟨_,ns,?_⟩;refine⟨_,lb,?_⟩;generalize ru r (jf r l e.sum) q.fails=ch at*;have wch:(D.int ch).i=ch:=rfl;rw[wch];generalize hpp:1000000000-ch=p at*;have wp:i64.wrap p=p:=aR (by omega);have ww:i64.wrap (e.sum-below)=e.sum-below:=aR (by omega);generalize hW:e.sum-below=W at*;have hW0:0<W/\W<=1099511627776:=by omega
   rw[wp,ww,Ec (by omega),Pu (by omega)];have q1:0<=W/1000000000/\W/1000000000<=1100:=by omega
   have m1:0<=W%1000000000/\W%1000000000<1000000000:=by omega
   generalize W/1000000000=A at*;generalize W%1000000000=B at*;have a1:0<=A*p:=AG q1.1 y7.1;have a2:A*p<=1100*1000000000:=aaK q1.2 y7.2 y7.1 (by omega);have b1:0<=B*p:=AG m1.1 y7.1;have b2:B*p<=1000000000*1000000000:=aaK (by omega) y7.2 y7.1 (by omega);have hwb:whole<=1099511627776:=by omega
   have nz:0<=whole:=by
        have h1:=OY (f:=λ_=>0) (g:=eR r l q.fails) below.toNat λs _ _=>(zO hQ l s).1;have h2:=Xq (f:=λ_=>(0:Int)) (m:=0) (λ_ _=>rfl) (kz below.toNat);have h3:gQ (λ_=>(0:Int)) 0=0:=rfl;rw[h2,h3] at h1;have h4:=i1.sum;have h1:0<=gQ (eR r l q.fails) below.toNat:=h1;simp only at h4;omega
   rw[aR (n:=A) (by omega)];generalize A*p=X at*;generalize B*p=Y at*;rw[aR (n:=X) (by omega),aR (n:=Y) (by omega),aR (n:=Y+rest) (by omega),Ec (by omega),Pu (by omega),aR (n:=whole+X) (by omega),aR (n:=(Y+rest)/1000000000) (by omega),aR (by omega)];exact⟨rfl,rfl⟩
 .simp[ajd,Of]
def me (r:Realm)(forum:Int)(f:File)(day:Int)(q:Quote):Int×Int:=
 if(jN r forum f day q).2≠0 then(0,(jN r forum f day q).2) else zP (jN r forum f day q).1 q.perMille (eI r forum f day) day
def akn (r:Realm)(forum:Int)(f:File)(day:Int)(q:Quote):jN r forum f day q=(0,1)\/(kO q=0/\wT r forum/\jN r forum f day q=(lI r (eY r forum f day) q.fails,0)):=by
 unfold jN;by_cases h:kO q≠0\/¬wT r forum
 .exact .inl (if_pos h)
 .refine .inr ⟨AA λe=>h (.inl e),AA λe=>h (.inr e),if_neg h⟩
def PQ (r:Realm)(hr:Right r)(hd:RightD r)(forum:Int)(f:File)(day:Int)(hf:FewS f)(q:Quote)(vg:q.fails.length<=4294967296)(hp:PayOK r (eY r forum f day))(u9:bh day)(hm:eI r forum f day=-1\/(0<=eI r forum f day/\eI r forum f day<=100000/\0<=day)):
 ah T 9 [aQ r,.int forum,bW f,.int day,lP q] (.tup [.int (me r forum f day q).1,.int (me r forum f day q).2]):=by
 refine zyw 109 azP ?_;simp[Yr];refine⟨_,Ju r hr hd forum f day hf q vg hp,?_⟩;rcases akn r forum f day q with e|⟨hq,ho,e⟩
 .unfold me;rw[e];simp
 obtain⟨p0,p1,hQ⟩:=Hs hq;unfold me;rw[e];have nz:=akq (r:=r) (l:=eY r forum f day) hQ;have jo:=aBN (r:=r) (l:=eY r forum f day) hQ;generalize lI r (eY r forum f day) q.fails=w at*;simp;refine⟨_,aa1 r hr hd forum f day hf,?_⟩;generalize eI r forum f day=due at*;unfold zP;by_cases h1:due=-1
 .simp[h1]
 obtain⟨m0,m1,m2⟩:=hm.resolve_left h1;have ws:i64.wrap (due-day)=due-day:=aR (by unfold bh at u9;omega);rw[if_neg h1];by_cases h2:day<due/\20000<due-day
 .rw[if_pos h2];simp[h1,h2,ws]
 rw[if_neg h2];have gY:¬(day<due/\20000<due-day):=h2;simp[h1,gY,ws];have hmx:(if due-day<0 then D.int 0 else D.int (due-day))=D.int (max (due-day) 0):=by
  split
  .rw[show max (due-day) 0=0 by omega]
  .rw[show max (due-day) 0=due-day by omega]
 have hD:=akL w q.perMille (max (due-day) 0);have hn:=ang (w:=w) (pm:=q.perMille) (d:=max (due-day) 0) ⟨nz,jo⟩ ⟨p0,p1⟩ (by omega);have hnr:=af7 (w:=w) (x:=q.perMille*max (due-day) 0) nz (AG p0 (by omega));rw[<-hn] at hnr ⊢;generalize p9 w q.perMille (max (due-day) 0)=dd at*;rw[hmx];refine⟨_,hD,?_⟩;obtain⟨d1,d2⟩:=dd;by_cases dA:d2=0
 .simp[dA] at hnr ⊢;exact aR (by omega)
 .simp[dA]
def ajZ (a b:Int):Prop:=a=2\/a=b
def vn (f:File)(x:Fact):Bool:=(decide (0<=x.kind)&&decide (x.kind<5))&&(decide (0<=x.at_)&&decide (x.at_<f.signs.length))&&(decide (0<=x.n)&&decide (x.n<=1))
def lO (f:File)(l:List Fact):File:=l.foldl (λg x=>if vn g x=true then mT g x else g) f
def PX (f:File)(l:List Fact):MoreF f (lO f l):=by
 have h:∀(l:List Fact) (g:File),MoreF f g->MoreF f (l.foldl (λg x=>if vn g x=true then mT g x else g) g):=by
  intro l
  induction l with
  |nil=>exact λg hg=>hg
  |cons x l ih=>
   intro g hg;refine ih _ ?_;show MoreF f (if vn g x=true then mT g x else g);split
   .exact hg.with_ x
   .exact hg
 exact h l f (.rfl' f)
def abg (f:File)(l:List Fact):(lO f l).facts.length<=f.facts.length+l.length:=by
 have h:∀(l:List Fact) (g:File),(l.foldl (λg x=>if vn g x=true then mT g x else g) g).facts.length<=g.facts.length+l.length:=by
  intro l
  induction l with
  |nil=>intro g;simp
  |cons x l ih=>
   intro g;have h1:=ih (if vn g x=true then mT g x else g);have h2:=aBH g x;simp only[vP,pQ];split at h1<;>rename_i hc
   .rw[if_pos hc];omega
   .rw[if_neg hc];omega
 exact h l f
def alj (f:File)(l:List Fact){k:Nat}(hk:k<l.length):lO f (l.take (k+1))=if vn (lO f (l.take k)) l[k]=true then mT (lO f (l.take k)) l[k] else lO f (l.take k):=by
 unfold lO;rw[iX hk,s9];rfl
@[simp] def aIi:D.none.b=false:=zyz
def fb (n a b:Int):ah T 53 [.int n,.int a,.int b] (.bool (wi n a b)):=by
 refine zyw 144 azI ?_;simp[Ym];by_cases h:a<=n<;>simp[wi,h]
def pK (n m:Int):ah T 87 [.int n,.int m] (.bool (aC n m)):=by
 refine zyw 141 aBf ?_;simp[ZY];by_cases h:0<=n<;>simp[aC,h]
def O2 (b:Bill):Bool:=
 if b.tenor.kind=0\/b.tenor.kind=4 then decide (b.tenor.n=0)&&decide (b.tenor.unit=0)
 else if b.tenor.kind=1\/b.tenor.kind=2 then(decide (1<=b.tenor.n)&&decide (b.tenor.n<=400))&&(decide (b.tenor.unit=0)||decide (b.tenor.unit=1))
 else if b.tenor.kind=3 then(decide (b.day<=b.tenor.n)&&decide (b.tenor.n<=100000))&&decide (b.tenor.unit=0)
 else false
def aBK (b:Bill):ah T 88 [dI b] (.bool (O2 b)):=by
 refine zyw 142 aBg ?_;unfold O2;simp[ZZ];by_cases h0:b.tenor.kind=0
 .by_cases h1:b.tenor.n=0<;>simp[h0,h1]
 by_cases h4:b.tenor.kind=4
 .by_cases h1:b.tenor.n=0<;>simp[h4,h1]
 simp[h0,h4];by_cases k1:b.tenor.kind=1
 .by_cases h1:1<=b.tenor.n<;>by_cases h2:b.tenor.n<=400<;>by_cases h3:b.tenor.unit=0<;>simp[k1,h1,h2,h3]
 by_cases k2:b.tenor.kind=2
 .by_cases h1:1<=b.tenor.n<;>by_cases h2:b.tenor.n<=400<;>by_cases h3:b.tenor.unit=0<;>simp[k2,h1,h2,h3]
 simp[k1,k2];by_cases k3:b.tenor.kind=3
 .by_cases h1:b.day<=b.tenor.n<;>by_cases h2:b.tenor.n<=100000<;>simp[k3,h1,h2]
 simp[k3]
def vp (n m:Int):Bool:=decide (n=-1)||aC n m
def As (r:Realm)(b:Bill):Bool:=((aC b.drawer r.firms.length&&aC b.drawee r.firms.length)&&vp b.payee r.firms.length)&&vp b.need r.firms.length
def xM (r:Realm)(b:Bill):Bool:=(aC b.currency r.currencies.length&&aC b.city r.cities.length)&&aC b.pay r.cities.length
def Ab (b:Bill):Prop:=((((1<=b.sum/\b.sum<=1099511627776)/\0<=b.day)/\b.day<=100000)/\0<=b.rate)/\b.rate<=1000
def RK (b:Bill):Prop:=((0<=b.flags/\b.flags<=7)/\(bV .and .i64 b.flags 4=0\/¬b.payee=-1))/\O2 b=true
structure BillOK (r:Realm) (b:Bill):Prop where
 realm:gW r=0
 who:As r b=true
 where_:xM r b=true
 range:Ab b
 parts:1<=b.parts/\b.parts<=4
 form:RK b
 usance:b.tenor.kind=4->∃u,u∈r.usances/\u.fr=b.city/\u.to=b.pay
def re (P:Prop)(d:D):Prop:=∃e:Int,d=.int e/\(e=0↔P)
def re.no {P:Prop}{e:Int}(h:¬P)(he:e≠0):re P (.int e):=⟨e,rfl,λx=>absurd x he,λx=>absurd x h⟩
def re.ok {P:Prop}(h:P):re P (.int 0):=⟨0,rfl,λ_=>h,λ_=>rfl⟩
def aBJ (r:Realm)(hs:Small r)(b:Bill):∃d,ah T 51 [aQ r,dI b] d/\re (BillOK r b) d:=by
 refine ah.ex_of_tree rfl alD aBe ?_;simp[ZX];refine⟨_,OD r hs,?_⟩;by_cases h0:gW r=0
 case neg=>
  simp[h0];exact .no (λh=>h0 h.realm) h0
 simp[h0];refine⟨_,pK _ _,?_⟩;cases h1:aC b.drawer r.firms.length
 .simp;exact .no (λh=>by simpa [As,h1] using h.who) (by decide)
 simp;refine⟨_,pK _ _,?_⟩;cases h2:aC b.drawee r.firms.length
 .simp;exact .no (λh=>by simpa [As,h2] using h.who) (by decide)
 by_cases h3:vp b.payee r.firms.length=true
 case neg=>
  have fE:¬b.payee=-1/\aC b.payee r.firms.length=false:=by simpa [vp] using h3
  simp[fE.1];refine⟨_,pK _ _,?_⟩;simp[fE.2];exact .no (λh=>h3 (by have:=h.who;simp[As] at this;exact this.1.2)) (by decide)
 by_cases h4:vp b.need r.firms.length=true
 case neg=>
  have oQ:¬b.need=-1/\aC b.need r.firms.length=false:=by simpa [vp] using h4
  have fI:re (BillOK r b) (.int 1):=.no (λh=>h4 (by have:=h.who;simp[As] at this;exact this.2)) (by decide);by_cases hp:b.payee=-1
  .simp[hp,oQ.1];refine⟨_,pK _ _,?_⟩;simp[oQ.2];exact fI
  .have fE:aC b.payee r.firms.length=true:=by simpa [vp,hp] using h3
   simp[hp];refine⟨_,pK _ _,?_⟩;simp[fE,oQ.1];refine⟨_,pK _ _,?_⟩;simp[oQ.2];exact fI
 have Mr:As r b=true:=by simp[As,h1,h2,h3,h4]
 have hp:b.payee=-1\/(¬b.payee=-1/\aC b.payee r.firms.length=true):=by
  by_cases e:b.payee=-1
  .exact .inl e
  .exact .inr ⟨e,by simpa [vp,e] using h3⟩
 have hn:b.need=-1\/(¬b.need=-1/\aC b.need r.firms.length=true):=by
  by_cases e:b.need=-1
  .exact .inl e
  .exact .inr ⟨e,by simpa [vp,e] using h4⟩
 have bad:¬xM r b=true->re (BillOK r b) (.int 1):=λh=>.no (λk=>h k.where_) (by decide);have fin:∀u:Int,(u=0↔∃u,u∈r.usances/\u.fr=b.city/\u.to=b.pay)->Ab b->(1<=b.parts/\b.parts<=4)->RK b->xM r b=true->re (BillOK r b) (if b.tenor.kind=4 then .int u else .int 0):=by
  intro u hu h6 h7 h8 h9;by_cases e:b.tenor.kind=4
  .rw[if_pos e];exact⟨u,rfl,λh=>⟨h0,Mr,h9,h6,h7,h8,λ_=>hu.1 h⟩,λh=>hu.2 (h.usance e)⟩
  .rw[if_neg e];exact .ok ⟨h0,Mr,h9,h6,h7,h8,λh=>absurd h e⟩
 obtain⟨un,ue,hu1,_,hu2⟩:=abc r b.city b.pay (by have:=hs.us;omega);rcases hp with hp|⟨hp,eP⟩<;>rcases hn with hn|⟨hn,rZ⟩
 case' inl.inl=>simp[hp,hn]
 case' inl.inr=>simp[hp,hn];refine⟨_,pK _ _,?_⟩;simp[rZ]
 case' inr.inl=>simp[hp,hn];refine⟨_,pK _ _,?_⟩;simp[eP]
 case' inr.inr=>simp[hp,hn];refine⟨_,pK _ _,?_⟩;simp[eP];refine⟨_,pK _ _,?_⟩;simp[rZ]
 all_goals
  refine⟨_,pK _ _,?_⟩;cases h5:aC b.currency r.currencies.length
  .simp;exact bad (by simp[xM,h5])
  simp;refine⟨_,pK _ _,?_⟩;cases h6:aC b.city r.cities.length
  .simp;exact bad (by simp[xM,h6])
  simp;refine⟨_,pK _ _,?_⟩;cases h7:aC b.pay r.cities.length
  .simp;exact bad (by simp[xM,h7])
  have GI:xM r b=true:=by simp[xM,h5,h6,h7]
  simp;by_cases h8:Ab b
  case neg=>
   have RU:((((b.sum<1\/1099511627776<b.sum)\/b.day<0)\/100000<b.day)\/b.rate<0)\/1000<b.rate:=by unfold Ab at h8;omega
   rw[if_pos RU];exact .no (λk=>h8 k.range) (by decide)
  have RU:¬(((((b.sum<1\/1099511627776<b.sum)\/b.day<0)\/100000<b.day)\/b.rate<0)\/1000<b.rate):=by unfold Ab at h8;omega
  rw[if_neg RU];by_cases h9:1<=b.parts/\b.parts<=4
  case neg=>
   rw[if_pos (by omega)];exact .no (λk=>h9 k.parts) (by decide)
  rw[if_neg (by omega)];have P5:¬RK b->re (BillOK r b) (.int 2):=λh=>.no (λk=>h k.form) (by decide);by_cases g1:0<=b.flags/\b.flags<=7
  case neg=>
   have fC:b.flags<0\/7<b.flags:=by omega
   simp[g1,fC];exact P5 (λh=>g1 h.1.1)
  have fC:¬(b.flags<0\/7<b.flags):=by omega
  by_cases g2:bV .and .i64 b.flags 4=0\/¬b.payee=-1
  case neg=>
   have qe:¬bV .and .i64 b.flags 4=0/\b.payee=-1:=by simpa using g2
   first
        |exact absurd qe.2 hp
        |(simp[g1,fC,qe]
          exact P5 (λh=>g2 h.1.2))
  have g3:(b.payee=-1->bV .and .i64 b.flags 4=0):=λe=>g2.resolve_right (λh=>h e);simp[g1,fC,hp,g3];refine⟨_,aBK b,?_⟩;cases jA:O2 b
  .simp;exact P5 (λh=>by have:=h.2;rw[jA] at this;cases this)
  have hf:=fin ue hu2 h8 h9 ⟨⟨g1,g2⟩,jA⟩ GI;simp;by_cases e:b.tenor.kind=4
  .simp[e] at hf ⊢;exact⟨_,hu1,hf⟩
  .simp[e] at hf ⊢;exact hf
def DT (f:File)(i part:Int):Bool:=decide (i=0)||decide ((eT f i).part=part)
def ah3 (f:File)(i part:Int)(h:i=0\/(0<=i/\i<f.signs.length)):ah T 132 [bW f,.int i,.int part] (.bool (DT f i part)):=by
 refine zyw 147 azK ?_;unfold DT;by_cases h0:i=0
 .simp[Pc,h0]
 .obtain⟨h1,h2⟩:=h.resolve_left h0;have h3:i.toNat<f.signs.length:=by omega
  simp[Pc,h0,h1,h2,h3,eT]
def JG (f:File)(i:Int)(kinds:List Int):Bool:=wi (eT f i).for_ 0 (i-1)&&(DT f (eT f i).for_ (eT f i).part&&hasB kinds (eT f (eT f i).for_).kind)
def av9 (f:File)(i:Int)(kinds:List Int)(h:0<=i/\i<f.signs.length)(hl:f.signs.length<=100000)(hk:kinds.length<=100):ah T 131 [bW f,.int i,ints kinds] (.bool (JG f i kinds)):=by
 refine zyw 146 azF ?_;have h1:i.toNat<f.signs.length:=by omega
 have hw:i64.wrap (i-1)=i-1:=aR (by omega);have hs:eT f i=f.signs[i.toNat]:=by simp[eT,h1]
 unfold JG;rw[hs];simp[Yj,h,h1,hw];refine⟨_,fb _ _ _,?_⟩;cases hb:wi f.signs[i.toNat].for_ 0 (i-1)
 .simp
 .have bO:0<=f.signs[i.toNat].for_/\f.signs[i.toNat].for_<f.signs.length:=by
   simp[wi] at hb;omega
  have h2:f.signs[i.toNat].for_.toNat<f.signs.length:=by omega
  have dU:eT f f.signs[i.toNat].for_=f.signs[f.signs[i.toNat].for_.toNat]:=by simp[eT,h2]
  rw[dU];simp;refine⟨_,ah3 f _ _ (.inr bO),?_⟩;cases cJ:DT f f.signs[i.toNat].for_ f.signs[i.toNat].part
  .simp
  simp[bO,h2];exact xR kinds _ (by omega)
def RG (r:Realm)(b:Bill)(s:Sign)(B:List Int->Bool):Bool:=
 if s.kind=0 then((((decide (s.who=b.drawer)&&decide (s.sum=0))&&decide (bV .or .i64 s.flags 1=1))&&decide (s.part=0))&&decide (s.day=b.day))&&decide (s.city=b.city)
 else if s.kind=1 then decide (s.who=b.drawee)&&(wi s.sum 1 1099511627776&&decide (s.flags=0))
 else if s.kind=2 then((wi s.to (-1) ((r.firms.length:Int)-1)&&decide (s.sum=0))&&wi s.flags 0 7)&&decide (bV .and .i64 s.flags 6≠6)
 else if s.kind=3 then(decide (s.sum=0)&&decide (s.flags=0))&&B [0,1,2,4]
 else if s.kind=4 then((wi s.sum 1 1099511627776&&decide (s.flags=0))&&decide (s.who≠b.drawee))&&B [0,2]
 else false
def Ls (r:Realm)(b:Bill)(i:Nat)(s:Sign)(B:List Int->Bool):Bool:=
 if ¬(i=0↔s.kind=0)\/(¬s.kind=2/\¬s.to=-1) then false
 else if(¬s.kind=3/\¬s.kind=4)/\¬s.for_=-1 then false
 else RG r b s B
def yJ (r:Realm)(f:File)(i:Nat):Bool:=Ls r f.bill i (f.signs.getD i default) (JG f i)
def awb (r:Realm)(hr:Small r)(f:File)(i:Nat)(h:i<f.signs.length)(hl:f.signs.length<=100000):ah T 90 [aQ r,bW f,.int i] (.bool (yJ r f i)):=by
 refine zyw 145 azH ?_;have lR:=hr.firms;have hw:i64.wrap ((r.firms.length:Int)-1)=(r.firms.length:Int)-1:=aR (by omega);have hs:f.signs.getD i default=f.signs[i]:=by simp[h]
 have R9:=λks hk=>av9 f i ks ⟨by omega,by omega⟩ hl hk;unfold yJ;rw[hs];generalize hB:JG f i=B at R9 ⊢;generalize hX:Ls r f.bill i f.signs[i] B=X;simp[Yl,h];generalize f.signs[i]=s at*;unfold Ls at hX;by_cases h1:¬(i=0↔s.kind=0)\/(¬s.kind=2/\¬s.to=-1)
 .rw[if_pos h1] at hX ⊢;exact hX.symm
 rw[if_neg h1] at hX ⊢;by_cases h2:(¬s.kind=3/\¬s.kind=4)/\¬s.for_=-1
 .rw[if_pos h2] at hX ⊢;exact hX.symm
 rw[if_neg h2] at hX ⊢;refine⟨_,fb _ _ _,?_⟩;unfold RG at hX;by_cases k0:s.kind=0
 .rw[if_pos k0] at hX ⊢;rw[<-hX];by_cases a:(((s.who=f.bill.drawer/\s.sum=0)/\bV BinOp.or IntKind.i64 s.flags 1=1)/\s.part=0)/\s.day=f.bill.day
  .simp[a]
  .rw[if_neg a]
   congr 1
   rw[eq_comm,aaD];intro e;simp at e;exact a e.1
 rw[if_neg k0] at hX ⊢;by_cases k1:s.kind=1
 .rw[if_pos k1] at hX ⊢;rw[<-hX];by_cases a:s.who=f.bill.drawee<;>cases wi s.sum 1 1099511627776<;>simp[a]
 rw[if_neg k1] at hX ⊢;by_cases k2:s.kind=2
 .rw[if_pos k2] at hX ⊢;rw[<-hX,hw];refine⟨_,fb _ _ _,?_⟩;cases wi s.to (-1) ((r.firms.length:Int)-1)
  .simp
  by_cases a:s.sum=0
  case neg=>simp[a]
  simp[a];refine⟨_,fb _ _ _,?_⟩;cases wi s.flags 0 7<;>simp
 rw[if_neg k2] at hX ⊢;by_cases k3:s.kind=3
 .rw[if_pos k3] at hX ⊢;rw[<-hX];by_cases a:s.sum=0/\s.flags=0
  case neg=>
   rw[if_neg a,if_neg a]
   congr 1
   rw[eq_comm,aaD];intro e;simp at e;exact a e.1
  rw[if_pos a];refine⟨_,R9 [0,1,2,4] (by decide),?_⟩;simp[a]
 rw[if_neg k3] at hX ⊢;by_cases k4:s.kind=4
 .rw[if_pos k4] at hX ⊢;rw[<-hX];cases wi s.sum 1 1099511627776
  .simp
  by_cases a:s.flags=0/\¬s.who=f.bill.drawee
  case neg=>
   simp[a]
  simp[a];exact R9 [0,2] (by decide)
 rw[if_neg k4] at hX ⊢;exact hX.symm
def oN (f:File)(i:Nat):Int:=if i=0 then f.bill.day else(f.signs.getD (i-1) default).day
def I1 (f:File)(i:Nat)(s:Sign):Bool:=(f.signs.take i).any λx=>(decide (s.kind=1)&&decide (x.kind=1))&&decide (x.part=s.part)
def DR (r:Realm)(f:File)(i:Nat):Int:=
 let s:=f.signs.getD i default
 if wi s.part 0 (f.bill.parts-1)=false then 15
 else if aC s.who r.firms.length=false\/aC s.city r.cities.length=false then 1
 else if wi s.day (oN f i) 100000=false\/(i=0/\¬s.day=oN f i) then 13
 else if yJ r f i=false then 14
 else if I1 f i s=true then 5 else 0
def ah2 (r:Realm)(hr:Small r)(f:File)(hp:1<=f.bill.parts/\f.bill.parts<=4)(i:Nat)(h:i<f.signs.length)(hl:f.signs.length<=100000):ah T 52 [aQ r,bW f,.int i] (.int (DR r f i)):=by
 refine zyw 143 azJ ?_;have lR:=hr.firms;have Se:=hr.cities;have jo:i64.wrap ((r.firms.length:Int)-1)=(r.firms.length:Int)-1:=aR (by omega);have db:i64.wrap ((r.cities.length:Int)-1)=(r.cities.length:Int)-1:=aR (by omega);have Tu:i64.wrap (f.bill.parts-1)=f.bill.parts-1:=aR (by omega);have hs:f.signs.getD i default=f.signs[i]:=by simp[h]
 generalize hX:DR r f i=X;unfold DR at hX;simp only[hs] at hX;simp[Yn,h,jo,db,Tu];refine⟨_,fb _ _ _,?_⟩;cases a1:wi f.signs[i].part 0 (f.bill.parts-1)
 .simpa [a1] using hX
 simp[a1] at hX ⊢;refine⟨_,fb _ _ _,?_⟩;rw[pj] at hX;cases a2:wi f.signs[i].who 0 ((r.firms.length:Int)-1)
 .simpa [a2] using hX
 simp[a2] at hX ⊢;refine⟨_,fb _ _ _,?_⟩;rw[pj] at hX;cases a3:wi f.signs[i].city 0 ((r.cities.length:Int)-1)
 .simpa [a3] using hX
 simp[a3] at hX ⊢;refine⟨by omega,?_⟩;have y5:min i f.signs.length=i:=by omega
 refine aL.forRounds i (λk=>[.int (oN f k),.bool ((f.signs.take k).any λx=>(decide (f.signs[i].kind=1)&&decide (x.kind=1))&&decide (x.part=f.signs[i].part)),.int k]) (λ_=>[]) ?_ (λk hk=>?_) ?_
 .simp[oN]
 .have hw:=bq hk (by omega);have bf:k<f.signs.length:=by omega
  have hf:oN f (k+1)=f.signs[k].day:=by simp[oN,bf]
  rw[iX bf,List.any_append];generalize ((f.signs.take k).any λx=>(decide (f.signs[i].kind=1)&&decide (x.kind=1))&&decide (x.part=f.signs[i].part))=A;simp[ajc,Oe,hk,bf,h,hw,hf,y5];cases A
  .by_cases e1:f.signs[i].kind=1<;>by_cases e2:f.signs[k].kind=1<;>simp[e1,e2]
  .simp
 .have ht:I1 f i f.signs[i]=true↔∃x,x∈List.take i f.signs/\(f.signs[i].kind=1/\x.kind=1)/\x.part=f.signs[i].part:=by simp[I1]
  simp[ajc,Oe,y5,h];refine⟨_,fb _ _ _,?_⟩;by_cases a4:wi f.signs[i].day (oN f i) 100000=false\/(i=0/\¬f.signs[i].day=oN f i)
  .rw[if_pos a4] at hX;rw[if_pos (by simpa using a4)];exact hX
  rw[if_neg a4] at hX;rw[if_neg (by simpa using a4)];refine⟨_,awb r hr f i h hl,?_⟩;cases a5:yJ r f i
  .simpa [a5] using hX
  simp[a5] at hX;simp only[am3,if_true];rw[<-hX];by_cases a6:I1 f i f.signs[i]=true
  .rw[if_pos a6,if_pos (ht.1 a6)]
  .rw[if_neg a6,if_neg (λx=>a6 (ht.2 x))]
def Jx (a:Act)(to at_ own:Bool):Bool:=
 if a.kind=0\/a.kind=1\/a.kind=2 then(to&&decide (a.at_=-1))&&decide (a.sum=0)
 else if a.kind=3\/a.kind=4\/a.kind=5 then((to&&decide (a.at_=-1))&&wi a.sum 0 1099511627776)&&wi a.form 0 1
 else if a.kind=6 then(to&&own)&&wi a.sum 1 1099511627776
 else if a.kind=9 then(decide (a.to=-1)&&own)&&decide (a.sum=0)
 else(decide (a.to=-1)&&at_)&&decide (a.sum=0)
def Ex (f:File)(a:Act):Bool:=aC a.at_ f.signs.length&&DT f a.at_ a.part
def Vk (f:File)(a:Act):Bool:=Ex f a&&decide ((eT f a.at_).who=a.who)
def vV (r:Realm)(f:File)(a:Act):Bool:=
 if aC a.who r.firms.length=false\/(¬a.kind=4/\¬a.form=0) then false else Jx a (aC a.to r.firms.length) (Ex f a) (Vk f a)
def av7 (r:Realm)(hr:Small r)(f:File)(a:Act)(hl:f.signs.length<=100000):ah T 91 [aQ r,bW f,kC a] (.bool (vV r f a)):=by
 refine zyw 149 azD ?_;have lR:=hr.firms;have jo:i64.wrap ((r.firms.length:Int)-1)=(r.firms.length:Int)-1:=aR (by omega);have db:i64.wrap ((f.signs.length:Int)-1)=(f.signs.length:Int)-1:=aR (by omega);generalize hX:vV r f a=X;unfold vV Vk Ex at hX;simp[Yh,jo,db];refine⟨_,fb _ _ _,?_⟩;rw[<-pj];have zh:=fb a.to 0 ((r.firms.length:Int)-1);have GI:=fb a.who 0 ((r.firms.length:Int)-1);rw[<-pj] at zh GI;generalize aC a.to r.firms.length=tt at*;generalize aC a.who r.firms.length=ww at*;have fin:∀at_ own:Bool,(if ww=false\/(¬a.kind=4/\¬a.form=0) then false else Jx a tt at_ own)=X->
  if ww=false\/(¬a.kind=4/\¬a.form=0) then X=false
  else if a.kind=0\/a.kind=1\/a.kind=2 then(if tt=true/\a.at_=-1 then D.bool (decide (a.sum=0)) else D.bool false)=D.bool X
  else if a.kind=3\/a.kind=5\/a.kind=4 then
        if tt=true/\a.at_=-1 then
         ∃d,ah (eN tab ext) 53 [D.int a.sum,D.int 0,D.int 1099511627776] d/\
          if(tt=true/\a.at_=-1)/\d.b=true then
             ∃E8,ah (eN tab ext) 53 [D.int a.form,D.int 0,D.int 1] E8/\(if(tt=true/\a.at_=-1)/\d.b=true then E8 else D.bool false)=D.bool X
          else(if(tt=true/\a.at_=-1)/\d.b=true then D.none else D.bool false)=D.bool X
        else D.bool false=D.bool X
  else if a.kind=6 then
        if tt=true/\own=true then ∃E8,ah (eN tab ext) 53 [D.int a.sum,D.int 1,D.int 1099511627776] E8/\(if tt=true/\own=true then E8 else D.bool false)=D.bool X
        else(if tt=true/\own=true then D.none else D.bool false)=D.bool X
  else if a.kind=9 then(if a.to=-1/\own=true then D.bool (decide (a.sum=0)) else D.bool false)=D.bool X
  else(if a.to=-1/\at_=true then D.bool (decide (a.sum=0)) else D.bool false)=D.bool X:=by
  intro at_ own hX;by_cases p:ww=false\/(¬a.kind=4/\¬a.form=0)
  .rw[if_pos p] at hX ⊢;exact hX.symm
  rw[if_neg p] at hX ⊢;unfold Jx at hX;by_cases k0:a.kind=0\/a.kind=1\/a.kind=2
  .rw[if_pos k0] at hX ⊢;rw[<-hX];by_cases e:tt=true/\a.at_=-1
   .simp[e]
   .rw[if_neg e];cases tt<;>simp at e ⊢;simp[e]
  rw[if_neg k0] at hX ⊢;by_cases k3:a.kind=3\/a.kind=4\/a.kind=5
  .rw[if_pos k3] at hX;rw[if_pos (by omega),<-hX];by_cases e:tt=true/\a.at_=-1
   .rw[if_pos e];refine⟨_,fb _ _ _,?_⟩;cases wi a.sum 0 1099511627776
    .simp
    .simp[e];exact fb _ _ _
   .rw[if_neg e];cases tt<;>simp at e ⊢;simp[e]
  rw[if_neg k3] at hX;rw[if_neg (by omega)];by_cases k6:a.kind=6
  .rw[if_pos k6] at hX ⊢;rw[<-hX];by_cases e:tt=true/\own=true
   .rw[if_pos e];refine⟨_,fb _ _ _,?_⟩;simp[e]
   .rw[if_neg e,if_neg e];cases tt<;>cases own<;>simp at e ⊢
  rw[if_neg k6] at hX ⊢;by_cases k9:a.kind=9
  .rw[if_pos k9] at hX ⊢;rw[<-hX];cases own<;>by_cases e:a.to=-1<;>simp[e]
  rw[if_neg k9] at hX ⊢;rw[<-hX];cases at_<;>by_cases e:a.to=-1<;>simp[e]
 cases h1:aC a.at_ f.signs.length
 .have hf:=fin false false (by simpa [h1] using hX);simp at hf ⊢;refine⟨_,zh,_,GI,?_⟩;simpa using hf
 have cC:0<=a.at_/\a.at_<f.signs.length:=by simpa [aC] using h1
 have h2:a.at_.toNat<f.signs.length:=by omega
 have hs:eT f a.at_=f.signs[a.at_.toNat]:=by simp[eT,h2]
 simp[cC];refine⟨_,ah3 f _ _ (.inr cC),_,zh,_,GI,?_⟩;rw[h1,hs] at hX;have hf:=fin _ _ hX;cases h3:DT f a.at_ a.part
 .rw[h3] at hf;simpa using hf
 .rw[h3] at hf;simpa [h2] using hf
def MW (a b:Int):(if a<b then b else a)=max a b:=by split<;>omega
def T9 (a b:Int):(if a<b then D.int b else D.int a)=D.int (max a b):=by
 rw[<-MW];split<;>rfl
def TR (f:File)(i:Nat)(a:Act):Int:=
 let x:=if a.at_=-1 then f.bill.day else max f.bill.day (eT f a.at_).day
 if i=0 then x else max x (f.acts.getD (i-1) default).day
def vW (r:Realm)(f:File)(i:Nat):Int:=
 let a:=f.acts.getD i default
 if wi a.part 0 (f.bill.parts-1)=false then 15
 else if aC a.city r.cities.length=false\/wi a.kind 0 9=false then 1
 else if vV r f a=false then 14
 else if wi a.day (TR f i a) 100000=false then 13 else 0
def abf {r:Realm}{f:File}{a:Act}(h:vV r f a=true)(hn:¬a.at_=-1):0<=a.at_/\a.at_<f.signs.length:=by
 unfold vV at h;split at h
 .cases h
 have key:Ex f a=true->0<=a.at_/\a.at_<f.signs.length:=λe=>by
  unfold Ex at e;simp only[ao] at e;simpa [aC] using e.1
 unfold Jx Vk at h
 repeat' split at h
 all_goals simp only[ao,decide_eq_true_eq] at h
 .exact absurd h.1.2 hn
 .exact absurd h.1.1.2 hn
 .exact key h.1.2.1
 .exact key h.1.2.1
 .exact key h.1.2
def av8 (r:Realm)(hr:Small r)(f:File)(hp:1<=f.bill.parts/\f.bill.parts<=4)(hl:f.signs.length<=100000)(y1:f.acts.length<=100000):ah T 54 [aQ r,bW f] (.int (fX f.acts.length (vW r f))):=by
 refine zyw 148 azE ?_;have Se:=hr.cities;have db:i64.wrap ((r.cities.length:Int)-1)=(r.cities.length:Int)-1:=aR (by omega);have Tu:i64.wrap (f.bill.parts-1)=f.bill.parts-1:=aR (by omega);simp[Yi];refine qW f.acts.length (vW r f) (λk=>[.int 0,.int k]) (λ_=>[]) ?_ (λk hk ho=>?_) (λk hk ho hb=>?_) (λhj=>?_)
 .simp
 case' refine_2=>have hb:vW r f k=vW r f k:=rfl
 case' refine_3=>rw[hb]
 case refine_4=>simp[aja,Oc,hj]
 all_goals
  have hw:=bq hk (by omega);have hs:f.acts.getD k default=f.acts[k]:=by simp[hk]
  clear hb;generalize hX:vW r f k=X at*;unfold vW at hX;simp only[hs] at hX;simp[aja,Oc,hk,db,Tu,hw];refine⟨_,fb _ _ _,?_⟩;cases a1:wi f.acts[k].part 0 (f.bill.parts-1)
  .simp[a1] at hX ⊢
   first|exact hX|(exfalso;omega)
  simp[a1] at hX ⊢;refine⟨_,fb _ _ _,?_⟩;rw[pj] at hX;cases a2:wi f.acts[k].city 0 ((r.cities.length:Int)-1)
  .simp[a2] at hX ⊢
   first|exact hX|(exfalso;omega)
  simp[a2] at hX ⊢;refine⟨_,fb _ _ _,?_⟩;cases a3:wi f.acts[k].kind 0 9
  .simp[a3] at hX ⊢
   first|exact hX|(exfalso;omega)
  simp[a3] at hX ⊢;refine⟨_,av7 r hr f f.acts[k] hl,?_⟩;cases a4:vV r f f.acts[k]
  .simp[a4] at hX ⊢
   first|exact hX|(exfalso;omega)
  simp[a4] at hX ⊢;unfold TR at hX;by_cases k0:k=0
  .subst k0;by_cases e1:f.acts[0].at_=-1
   .simp[e1] at hX;simp[e1];refine⟨_,fb _ _ _,?_⟩;split at hX
    .rename_i e;simp[e]
     first|exact hX|(exfalso;omega)
    .rename_i e
     first|(exfalso;omega)|simp[e]
   .obtain⟨h5,h6⟩:=abf a4 e1;have h7:f.acts[0].at_.toNat<f.signs.length:=by omega
    have h8:eT f f.acts[0].at_=f.signs[f.acts[0].at_.toNat]:=by simp[eT,h7]
    simp[e1,h8] at hX;simp[e1,h5,h6,h7,T9,MW];refine⟨_,fb _ _ _,?_⟩;split at hX
    .rename_i e;simp[e]
     first|exact hX|(exfalso;omega)
    .rename_i e
     first|(exfalso;omega)|simp[e]
  .have bG:i64.wrap ((k:Int)-1)=(k:Int)-1:=aR (by omega);have cu:((k:Int)-1).toNat=k-1:=by omega
   have nv:k-1<f.acts.length:=by omega
   have Ct:0<k:=by omega
   by_cases e1:f.acts[k].at_=-1
   .simp[k0,e1,nv] at hX;simp[e1,Ct,bG,cu,nv,T9,MW];refine⟨by omega,_,fb _ _ _,?_⟩;split at hX
    .rename_i e;simp[e]
     first|exact hX|(exfalso;omega)
    .rename_i e
     first|(exfalso;omega)|simp[e]
   .obtain⟨h5,h6⟩:=abf a4 e1;have h7:f.acts[k].at_.toNat<f.signs.length:=by omega
    have h8:eT f f.acts[k].at_=f.signs[f.acts[k].at_.toNat]:=by simp[eT,h7]
    simp[k0,e1,nv,h8] at hX;simp[e1,Ct,bG,cu,nv,h5,h6,h7,T9,MW];refine⟨by omega,_,fb _ _ _,?_⟩;split at hX
    .rename_i e;simp[e]
     first|exact hX|(exfalso;omega)
    .rename_i e
     first|(exfalso;omega)|simp[e]
def rA (a b:Int):Int:=if a<b then-1 else if b<a then 1 else 0
def ae7 (a:Int):ah T 133 [.int a] (.bool false):=by
 refine zyw 152 azj ?_;simp[XY]
def aaG (a b:Int):ah T 93 [.int a,.int b] (.int (rA a b)):=by
 refine zyw 151 azh ?_;simp[XW];refine⟨_,ae7 a,_,ae7 b,?_⟩;unfold rA;by_cases h1:a<b
 .simp[h1]
 by_cases h2:b<a<;>simp[h1,h2]
def ak4 (l:List Int)(hl:l.length<=100000):ah T 92 [ints l] (.int (fX l.length λk=>l.getD k 0)):=by
 refine zyw 153 azi ?_;simp[XX];refine qW l.length (λk=>l.getD k 0) (λk=>[.int 0,.int k]) (λ_=>[]) ?_ (λk hk ho=>?_) (λk hk ho hb=>?_) (λhj=>?_)
 .simp
 .have hw:=bq hk (by omega);have hx:l[k]=0:=by simpa [hk] using ho
  simp[V6,HI,hk,hx,hw]
 .have hx:¬l[k]=0:=by simpa [hk] using ho
  simp only[aF] at hb ⊢;rw[hb];simp[V6,HI,hk,hx]
 .simp only[aF] at hj ⊢;rw[hj];simp[V6,HI]
def or2 (a b:Int):(fX 2 λk=>[a,b].getD k 0)=if a=0 then b else a:=by
 have e:List.range 2=[0,1]:=rfl;unfold fX;rw[e];by_cases ha:a=0<;>by_cases hb:b=0<;>simp[ha,hb]
def AP (x y:Fact):Prop:=x.at_<y.at_\/(x.at_=y.at_/\x.kind<y.kind)
instance (x y:Fact):Decidable (AP x y):=by unfold AP;infer_instance
def alm (x y:Fact):0<=(if rA x.at_ y.at_=0 then rA x.kind y.kind else rA x.at_ y.at_)↔¬AP x y:=by
 unfold rA AP
 repeat' split
 all_goals omega
def yH (f:File)(i:Nat):Int:=
 let x:=f.facts.getD i default
 if wi x.kind 0 4=false then 1 else if aC x.at_ f.signs.length=false then 1 else if wi x.n 0 1=false then 1
 else if i=0 then 0 else if AP (f.facts.getD (i-1) default) x then 0 else 5
def awa (f:File)(hl:f.signs.length<=100000)(hlf:f.facts.length<=100000):ah T 55 [bW f] (.int (fX f.facts.length (yH f))):=by
 refine zyw 150 azG ?_;have db:i64.wrap ((f.signs.length:Int)-1)=(f.signs.length:Int)-1:=aR (by omega);simp[Yk];refine qW f.facts.length (yH f) (λk=>[.int 0,.int k]) (λ_=>[]) ?_ (λk hk ho=>?_) (λk hk ho hb=>?_) (λhj=>?_)
 .simp
 case' refine_2=>have hb:yH f k=yH f k:=rfl
 case' refine_3=>rw[hb]
 case refine_4=>simp[ajb,Od,hj]
 all_goals
  have hw:=bq hk (by omega);have hs:f.facts.getD k default=f.facts[k]:=by simp[hk]
  clear hb;generalize hX:yH f k=X at*;unfold yH at hX;simp only[hs] at hX;simp[ajb,Od,hk,db,hw];refine⟨_,fb _ _ _,?_⟩;cases a1:wi f.facts[k].kind 0 4
  .simp[a1] at hX ⊢
   first|exact hX|(exfalso;omega)
  simp[a1] at hX ⊢;refine⟨_,fb _ _ _,?_⟩;rw[pj] at hX;cases a2:wi f.facts[k].at_ 0 ((f.signs.length:Int)-1)
  .simp[a2] at hX ⊢
   first|exact hX|(exfalso;omega)
  simp[a2] at hX ⊢;refine⟨_,fb _ _ _,?_⟩;cases a3:wi f.facts[k].n 0 1
  .simp[a3] at hX ⊢
   first|exact hX|(exfalso;omega)
  simp[a3] at hX ⊢;by_cases k0:k=0
  .subst k0;simp at hX ⊢
   first|(exfalso;omega)|done
  .have bG:i64.wrap ((k:Int)-1)=(k:Int)-1:=aR (by omega);have cu:((k:Int)-1).toNat=k-1:=by omega
   have nv:k-1<f.facts.length:=by omega
   simp[k0,nv] at hX;simp[k0,bG,cu,nv];refine⟨by omega,_,aaG _ _,_,aaG _ _,?_⟩;have ho:=ak4 [rA f.facts[k-1].at_ f.facts[k].at_,rA f.facts[k-1].kind f.facts[k].kind] (by simp);simp only[pQ,AJ] at ho;rw[or2] at ho;refine⟨_,ho,?_⟩;have ha:=alm f.facts[k-1] f.facts[k];generalize (if rA f.facts[k-1].at_ f.facts[k].at_=0 then rA f.facts[k-1].kind f.facts[k].kind else rA f.facts[k-1].at_ f.facts[k].at_)=n at*;clear ho;by_cases e:AP f.facts[k-1] f.facts[k]
   .have hn:¬0<=n:=λh=>ha.1 h e;simp[e] at hX;simp[hn]
    first|done|(exfalso;omega)
   .have hn:0<=n:=ha.2 e;simp[e] at hX;simp[hn]
    first|exact hX|(exfalso;omega)
def yi (f:File)(i:Nat):Int:=
 let x:=f.alters.getD i default
 if wi x.at_ ((if i=0 then 0 else(f.alters.getD (i-1) default).at_)+1) f.signs.length=false then 1 else if wi x.sum 1 1099511627776=false then 3 else 0
structure PaperOK (r:Realm) (f:File):Prop where
 full:(f.signs.length<=40/\f.alters.length<=4)/\f.acts.length<=100/\f.facts.length<=200
 bill:BillOK r f.bill
 ne:f.signs≠[]
 signs:fX f.signs.length (DR r f)=0
 alters:fX f.alters.length (yi f)=0
 acts:fX f.acts.length (vW r f)=0
 facts:fX f.facts.length (yH f)=0
def av5 (r:Realm)(hs:Small r)(f:File)(FG:f.OK):∃d,ah T 24 [aQ r,bW f] d/\re (PaperOK r f) d:=by
 refine ah.ex_of_tree rfl alC azB ?_;simp[Yf];by_cases hf:(f.signs.length<=40/\f.alters.length<=4)/\f.acts.length<=100/\f.facts.length<=200
 case neg=>
  rw[if_pos (by omega)];exact .no (λh=>hf h.full) (by decide)
 rw[if_neg (by omega)];obtain⟨d,hb,e,rfl,he⟩:=aBJ r hs f.bill;refine⟨_,hb,?_⟩;by_cases e0:e=0
 case neg=>
  simp[e0];exact .no (λh=>e0 (he.2 h.bill)) e0
 have LQ:=he.1 e0;simp[e0];by_cases au:f.signs=[]
 .simp[au];exact .no (λh=>h.ne au) (by decide)
 simp[au];refine qW f.signs.length (DR r f) (λk=>[.int 0,.int k]) (λ_=>[]) ?_ (λk hk ho=>?_) (λk hk ho hb=>?_) (λhj=>?_)
 .simp
 .have hw:=bq hk (by omega);simp[V9,HL,hk,hw];refine⟨_,ah2 r hs f LQ.parts k hk (by omega),?_⟩;simp[ho]
 .simp[V9,HL,hk];refine⟨_,ah2 r hs f LQ.parts k hk (by omega),?_⟩;simp[ho];exact .no (λh=>ho (by rw[<-hb];exact h.signs)) ho
 simp[V9,HL];have lU:∀k,k<f.alters.length->(∀j,j<k->yi f j=0)->i64.wrap ((if k=0 then 0 else(f.alters.getD (k-1) default).at_)+1)=(if k=0 then 0 else(f.alters.getD (k-1) default).at_)+1:=by
  intro k hk hj;refine aR ?_;by_cases k0:k=0
  .rw[if_pos k0];omega
  .rw[if_neg k0];have h1:=hj (k-1) (by omega);have bG:k-1<f.alters.length:=by omega
   have h2:=(FG.2.2.1.2 _ (bR bG)).1;have h3:f.alters.getD (k-1) default=f.alters[k-1]:=by simp[bG]
   unfold yi at h1;rw[h3] at h1 ⊢;simp only at h1;generalize (if k-1=0 then(0:Int) else(f.alters.getD (k-1-1) default).at_)=L0 at h1;split at h1
   .cases h1
   .rename_i hh;simp[wi] at hh;unfold bh at h2;omega
 refine aL.scan f.alters.length (λk=>yi f k=0) (λk=>[.int 0,.int (if k=0 then 0 else(f.alters.getD (k-1) default).at_),.int k]) (λ_=>[]) ?_ (λk hk tQ ho=>?_) (λk hk tQ ho=>?_) (λyZ=>?_)
 .simp
 .have hw:=bq hk (by omega);have hl:=lU k hk tQ;generalize hL:(if k=0 then 0 else(f.alters.getD (k-1) default).at_)=L at*;have hs:f.alters.getD k default=f.alters[k]:=by simp[hk]
  unfold yi at ho;simp only[hs,hL] at ho;simp[Wa,HM,hk,hl];refine⟨_,fb _ _ _,?_⟩;cases a1:wi f.alters[k].at_ (L+1) f.signs.length
  .simp[a1] at ho
  simp[a1] at ho ⊢;refine⟨_,fb _ _ _,?_⟩;simp[ho,hw]
 .have hl:=lU k hk tQ;have F2:=RB hk tQ ho;generalize hL:(if k=0 then 0 else(f.alters.getD (k-1) default).at_)=L at*;have hs:f.alters.getD k default=f.alters[k]:=by simp[hk]
  have bad:∀e:Int,e≠0->re (PaperOK r f) (.int e):=λe h=>.no (λh=>ho (by rw[<-F2];exact h.alters)) h;unfold yi at ho;simp only[hs,hL] at ho;simp[Wa,HM,hk,hl];refine⟨_,fb _ _ _,?_⟩;cases a1:wi f.alters[k].at_ (L+1) f.signs.length
  .simp;exact bad 1 (by decide)
  simp[a1] at ho ⊢;refine⟨_,fb _ _ _,?_⟩;simp[ho];exact bad 3 (by decide)
 have yZ:=RE yZ;simp[Wa,HM];refine⟨_,av8 r hs f LQ.parts (by omega) (by omega),?_⟩;by_cases e3:fX f.acts.length (vW r f)=0
 case neg=>
  simp[e3];exact .no (λh=>e3 h.acts) e3
 simp[e3];refine⟨_,awa f (by omega) (by omega),?_⟩;exact⟨_,rfl,λh=>⟨hf,LQ,au,hj,yZ,e3,h⟩,λh=>h.facts⟩
structure SignOK (r:Realm) (f:File) (i:Nat) (s:Sign):Prop where
 part:0<=s.part/\s.part<=f.bill.parts-1
 who:0<=s.who/\s.who<r.firms.length
 city:0<=s.city/\s.city<r.cities.length
 day:oN f i<=s.day/\s.day<=100000
 fits:yJ r f i=true
 once:I1 f i s=false
def PaperOK.sign {r:Realm}{f:File}(h:PaperOK r f)(i:Nat)(hi:i<f.signs.length):SignOK r f i f.signs[i]:=by
 have h1:=RA h.signs i hi;have hs:f.signs.getD i default=f.signs[i]:=by simp[hi]
 unfold DR at h1;simp only[hs] at h1;split at h1
 .cases h1
 rename_i a1;split at h1
 .cases h1
 rename_i a2;split at h1
 .cases h1
 rename_i a3;split at h1
 .cases h1
 rename_i a4;split at h1
 .cases h1
 rename_i a5;simp[wi,aC] at a1 a2 a3;exact⟨⟨by omega,by omega⟩,⟨by omega,by omega⟩,⟨by omega,by omega⟩,⟨by omega,by omega⟩,by simpa using a4,by simpa using a5⟩
structure Jb (r:Realm) (f:File) (i:Nat) (a:Act):Prop where
 part:0<=a.part/\a.part<=f.bill.parts-1
 city:0<=a.city/\a.city<r.cities.length
 kind:0<=a.kind/\a.kind<=9
 fits:vV r f a=true
 day:TR f i a<=a.day/\a.day<=100000
def PaperOK.day {r:Realm}{f:File}(h:PaperOK r f):0<=f.bill.day/\f.bill.day<=100000:=by
 have:=h.bill.range;unfold Ab at this;omega
def acO {r:Realm}{f:File}(h:PaperOK r f):∀i,i<f.signs.length->0<=oN f i
 |0,_=>by simp[oN];exact h.day.1
 |i+1,hi=>by
  have h1:=(h.sign i (by omega)).day.1;have h2:=acO h i (by omega);have e:oN f (i+1)=f.signs[i].day:=by simp[oN,show i<f.signs.length by omega]
  omega
def ayd {r:Realm}{f:File}{i:Nat}(hi:i<f.signs.length)(h:yJ r f i=true)(hk:f.signs[i].kind=1\/f.signs[i].kind=4):1<=f.signs[i].sum/\f.signs[i].sum<=1099511627776:=by
 have hs:f.signs.getD i default=f.signs[i]:=by simp[hi]
 unfold yJ at h;rw[hs] at h;unfold Ls at h;split at h
 .cases h
 split at h
 .cases h
 unfold RG at h;rcases hk with hk|hk
 .simp[hk,wi] at h;omega
 .simp[hk,wi] at h;omega
def PaperOK.sums {r:Realm}{f:File}(h:PaperOK r f):SumsOK f:=by
 have hr:=h.bill.range;unfold Ab at hr;refine⟨by omega,by omega,λa ha=>?_,λs hs hk=>?_⟩
 .obtain⟨i,hi,rfl⟩:=fe ha;have h1:=RA h.alters i hi;have hs:f.alters.getD i default=f.alters[i]:=by simp[hi]
  unfold yi at h1;simp only[hs] at h1;generalize (if i=0 then(0:Int) else(f.alters.getD (i-1) default).at_)=L at h1;split at h1
  .cases h1
  split at h1
  .cases h1
  rename_i a1;simp[wi] at a1;omega
 .obtain⟨i,hi,rfl⟩:=fe hs;exact ayd hi (h.sign i hi).fits hk
def I4 (fr to:Int)(u:Usance):Bool:=decide (u.fr=fr)&&decide (u.to=to)
def I3 (l:List Usance)(fr to:Int):Int×Int:=match l.find? (I4 fr to) with|some u=>(u.days,0)|none=>(0,4)
def ak8 (r:Realm)(fr to:Int)(hl:r.usances.length<=100000):ah T 89 [aQ r,.int fr,.int to] (.tup [.int (I3 r.usances fr to).1,.int (I3 r.usances fr to).2]):=by
 refine .of_tree rfl abu akd ?_;simp[Pe];unfold I3;refine aL.scan r.usances.length (λk=>I4 fr to (r.usances.getD k default)=false) (λk=>[.int 0,.int 0,.int k]) (λ_=>[]) ?_ (λk hk hj ar=>?_) (λk hk hj ar=>?_) (λhj=>?_)
 .simp
 .have hw:=bq hk (by omega);have hn:¬(r.usances[k].fr=fr/\r.usances[k].to=to):=by simpa [I4,hk] using ar
  simp[DE,xn,hk,hw,hn]
 .have lR:=yI hk (by simpa [hk] using ar) (λj bz=>by have:=hj j bz;simpa [show j<r.usances.length by omega] using this);have hc:r.usances[k].fr=fr/\r.usances[k].to=to:=by simpa [I4,hk] using ar
  rw[lR];simp[DE,xn,hk,hc]
 .have lR:=B5 (l:=r.usances) (p:=I4 fr to) (λj bz=>by have:=hj j bz;simpa [bz] using this);rw[lR];simp[DE,xn]
def Jz (d:Int)(t:Tenor):Int×Int:=((Er d t).choose,(Er d t).choose_spec.choose)
def abh (d:Int)(t:Tenor):ah T 122 [.int d,qa t] (.tup [.int (Jz d t).1,.int (Jz d t).2]):=(Er d t).choose_spec.choose_spec
def ym (l:List Usance)(b:Bill)(seen:Int):Int×Int:=
 if b.tenor.kind=0 then(seen,0) else if b.tenor.kind=1 then Jz seen b.tenor else if b.tenor.kind=2 then Jz b.day b.tenor
 else if b.tenor.kind=4 then(i64.wrap (b.day+(I3 l b.city b.pay).1),(I3 l b.city b.pay).2) else(b.tenor.n,0)
def alQ (r:Realm)(hr:RightD r)(b:Bill)(seen:Int):ah T 76 [aQ r,dI b,.int seen] (.tup [.int (ym r.usances b seen).1,.int (ym r.usances b seen).2]):=by
 have Tk:D.agg [D.int b.tenor.kind,D.int b.tenor.n,D.int b.tenor.unit]=qa b.tenor:=rfl;refine .of_tree rfl yk Ao ?_;unfold ym;by_cases h0:b.tenor.kind=0
 .simp[pI,h0]
 by_cases h1:b.tenor.kind=1
 .have h:=abh seen b.tenor;have cC:(b.tenor.kind=1)=True:=eq_true h1;simp[pI,h0,cC];exact⟨_,h,by simp⟩
 by_cases h2:b.tenor.kind=2
 .have h:=abh b.day b.tenor;have gY:(b.tenor.kind=2)=True:=eq_true h2;simp[pI,h0,h1,gY];exact⟨_,h,by simp⟩
 by_cases h4:b.tenor.kind=4
 .have h:=ak8 r b.city b.pay (by have:=hr.small.us;omega);have oQ:(b.tenor.kind=4)=True:=eq_true h4;simp[pI,h0,h1,h2,oQ];exact⟨_,h,by simp⟩
 .simp[pI,h0,h1,h2,h4]
def ME (r:Realm)(pay cf:Int)(x:Int×Int):Int×Int:=
 if x.2≠0 then(0,x.2) else if eC x.1=false\/100000<i64.wrap (x.1+cf) then(0,3) else mj r pay (i64.wrap (x.1+cf))
def yB (r:Realm)(b:Bill)(seen cf:Int):Int×Int:=
 if gW r≠0\/aC b.city r.cities.length=false\/aC b.pay r.cities.length=false\/eC b.day=false then(0,1)
 else if((b.tenor.kind<0\/5<=b.tenor.kind)\/b.tenor.unit<0)\/2<=b.tenor.unit then(0,1)
 else if((¬seen=-1/\eC seen=false)\/cf<0)\/20000<cf then(0,1)
 else if DQ b.tenor=true/\seen=-1 then(0,4)
 else ME r b.pay cf (ym r.usances b seen)
def akM (r:Realm)(hr:RightD r)(b:Bill)(seen cf:Int):ah T 37 [aQ r,dI b,.int seen,.int cf] (.tup [.int (yB r b seen cf).1,.int (yB r b seen cf).2]):=by
 have Tk:D.agg [D.int b.tenor.kind,D.int b.tenor.n,D.int b.tenor.unit]=qa b.tenor:=rfl;have jV:=OD r hr.small;obtain⟨G,hG⟩:∃G,G=yB r b seen cf:=⟨_,rfl⟩
 rw[<-hG];unfold yB at hG;refine .of_tree rfl P4 ZD ?_;simp[IY];refine⟨_,jV,?_⟩;by_cases h0:gW r=0
 case neg=>simp[h0] at hG ⊢;simp[hG]
 simp[h0] at hG ⊢;refine⟨_,CO r b.city,?_⟩;cases h1:aC b.city r.cities.length
 .simp[h1] at hG ⊢;simp[hG]
 simp[h1] at hG ⊢;refine⟨_,CO r b.pay,?_⟩;cases h2:aC b.pay r.cities.length
 .simp[h2] at hG ⊢;simp[hG]
 simp[h2] at hG ⊢;refine⟨_,wS b.day,?_⟩;cases h3:eC b.day
 .simp[h3] at hG ⊢;simp[hG]
 simp[h3] at hG ⊢;have hp:0<=b.pay/\b.pay<r.cities.length:=by simpa [aC] using h2
 by_cases h4:((b.tenor.kind<0\/5<=b.tenor.kind)\/b.tenor.unit<0)\/2<=b.tenor.unit
 .rw[if_pos h4] at hG ⊢;simp[hG]
 rw[if_neg h4] at hG ⊢;have fin:G=ME r b.pay cf (ym r.usances b seen)->0<=cf->cf<=20000->∃d,ah T 76 [aQ r,dI b,D.int seen] d/\
  if(d.tget 1).i=0 then ∃d1,ah T 74 [d.tget 0] d1/\(if d1.b=false\/100000<i64.wrap ((d.tget 0).i+cf) then 0=G.1/\3=G.2 else
        ∃d2,ah T 77 [aQ r,D.int b.pay,D.int (i64.wrap ((d.tget 0).i+cf))] d2/\d2.tget 0=D.int G.1/\d2.tget 1=D.int G.2)
  else 0=G.1/\d.tget 1=D.int G.2:=by
  intro hG yV jY;refine⟨_,alQ r hr b seen,?_⟩;unfold ME at hG;generalize ym r.usances b seen=B at*;obtain⟨n,e⟩:=B;by_cases he:e=0
  .simp[he] at hG ⊢;refine⟨_,wS n,?_⟩;cases hd:eC n
   .simp[hd] at hG ⊢;simp[hG]
   have gA:0<=n/\n<=100000:=by simpa [eC] using hd
   have hw:i64.wrap (n+cf)=n+cf:=aR (by omega);simp[hd,hw] at hG ⊢;by_cases hle:100000<n+cf
   .rw[if_pos hle] at hG ⊢;simp[hG]
   .rw[if_neg hle] at hG ⊢;refine⟨_,Xg r hr.halts b.pay (n+cf) hp hr.cities (by omega) (by omega),?_⟩;simp[hG]
  .simp[he] at hG ⊢;simp[hG]
 by_cases hs:seen=-1
 .simp[hs] at fin hG ⊢;by_cases h5:cf<0\/20000<cf
  .rw[if_pos h5] at hG ⊢;simp[hG]
  rw[if_neg h5] at hG ⊢;refine⟨_,En b.tenor,?_⟩;cases h6:DQ b.tenor
  .simp[h6] at hG ⊢;exact fin hG (by omega) (by omega)
  .simp[h6] at hG ⊢;simp[hG]
 .simp[hs] at fin hG ⊢;refine⟨_,wS seen,?_⟩;cases hk:eC seen
  .simp[hk] at hG ⊢;simp[hG]
  simp[hk] at hG ⊢;by_cases h5:cf<0\/20000<cf
  .rw[if_pos h5] at hG ⊢;simp[hG]
  rw[if_neg h5] at hG ⊢;exact⟨⟨_,En b.tenor⟩,fin hG (by omega) (by omega)⟩
def ank {r:Realm}(hr:RightD r)(b:Bill)(seen cf:Int):rE r b seen cf=yB r b seen cf:=by
 have h:=(Pr r hr b seen cf).det (akM r hr b seen cf);simp at h;exact Prod.ext h.1 h.2
instance (a b:Int):Decidable (ajZ a b):=by unfold ajZ;infer_instance
def ax9 {r:Realm}(hh:xU r)(city:Int){d:Int}(h0:0<=d)(hd:d<=100001):(mj r city d).2=0->0<=(mj r city d).1/\(mj r city d).1<=100000:=by
 unfold mj;generalize r.cities.getD city.toNat default=c;generalize gI r city=o;have key:∀(n:Nat) (d:Int),0<=d->d<=100001->(100002-d).toNat<=n->(uv r c o n d).2=0->0<=(uv r c o n d).1/\(uv r c o n d).1<=100000:=by
  intro n
  induction n with
  |zero=>intro d h0 h1 h2;omega
  |succ n ih=>
   intro e h1 h2 h3;have CF:=Xm hh o (100002-e).toNat e h2;rw[ajS];change e<=ke r o e/\ke r o e<=100001 at CF;generalize ke r o e=x at*;have qn:=af8 (c:=c) (d:=x);by_cases he:(jH c x).2=0
   .obtain⟨g1,g2,g3⟩:=qn he;rw[if_neg (by simp[he])];by_cases hy:(jH c x).1=x
    .rw[if_pos hy];intro _;have e1:((x,0):Int×Int).1=x:=rfl;omega
    .rw[if_neg hy];exact ih _ (by omega) (by omega) (by omega)
   .rw[if_pos he];intro h;cases h
 exact key _ d h0 hd (aZ _)
def au8 {r:Realm}(hr:RightD r)(forum:Int)(f:File)(day:Int):eI r forum f day=-1\/(0<=eI r forum f day/\eI r forum f day<=100000):=by
 unfold eI;by_cases au:(bx f day).signs=[]
 .rw[if_pos au];exact .inl rfl
 rw[if_neg au,ank hr];generalize nN (bx f day)=sn;generalize max (qE (kX r forum 6 (bx f day) day)) 0=g;by_cases he:(yB r f.bill sn g).2=0
 case neg=>rw[if_pos he];exact .inl rfl
 rw[if_neg (by simp[he])];right;unfold yB at he ⊢;split at he
 .cases he
 rename_i c1;rw[if_neg c1];split at he
 .cases he
 rename_i c2;rw[if_neg c2];split at he
 .cases he
 rename_i c3;rw[if_neg c3];split at he
 .cases he
 rename_i c4;rw[if_neg c4];generalize ym r.usances f.bill sn=B at*;unfold ME at he ⊢;split at he
 .rename_i hb;exact absurd he hb
 rename_i c5;rw[if_neg c5];split at he
 .cases he
 rename_i c6;rw[if_neg c6];have hd:0<=B.1/\B.1<=100000:=by
  have:¬eC B.1=false:=λe=>c6 (.inl e);simpa [eC] using this
 have hw:i64.wrap (B.1+g)=B.1+g:=aR (by omega);rw[hw] at he c6 ⊢;exact ax9 hr.halts f.bill.pay (by omega) (by omega) he
def ac0 {r:Realm}(h:gW r=0):Je r/\xT r:=by
 unfold gW at h;rw[ON] at h;refine⟨λx hx=>?_,λg hg=>?_⟩
 .obtain⟨k,hk,rfl⟩:=fe hx;have h1:=h (eO (eZ r) 200 (oM r)) (by simp);unfold eO at h1;split at h1
  .cases h1
  have h2:=RD.1 h1 k (by simpa [eZ] using hk);have h3:=(B6 h2).2;simp[oM,aC,hk] at h3;omega
 .obtain⟨k,hk,rfl⟩:=fe hg;have h1:=h (tJ r) (by simp);unfold tJ at h1;split at h1
  .cases h1
  split at h1
  .rename_i h2;have h3:=(yh.1 h2) k hk;simp[wk,aC,hk] at h3;omega
  .cases h1
def awg {r:Realm}{f:File}(G:Good r f)(hc:gW r=0)(hP:PaperOK r f)(forum day:Int):PayOK r (eY r forum f day):=by
 have dj:=Rp r forum f day;have rU:=G.few.signs;obtain⟨FZ,ns⟩:=ac0 hc;have hS:=hP.sums.at_ day;have each:∀e,e∈rJ r forum f day->(0<=e.firm/\e.firm<r.firms.length)/\0<=e.sum/\e.sum<=1099511627776:=by
  intro e he;unfold rJ at he;obtain⟨k,hk,rfl⟩:=bY.1 he;have bf:k<(bx f day).signs.length:=fy.1 hk;have h1:=acv (v:=gh r forum f day) hS k (by omega) (by show(k:Int)<((bx f day).signs.length:Int);omega);refine⟨?_,by omega,h1.2⟩;have hm:(bx f day).signs[k]∈f.signs:=(Jo _).subset (bR bf);obtain⟨i,hi,e⟩:=fe hm;have h2:=(hP.sign i hi).who;have h3:(jz (gh r forum f day) k).firm=((bx f day).signs[k]).who:=by
   show((bx f day).signs.getD (k:Int).toNat default).who=_;simp[bf]
  rw[h3,<-e];exact h2
 refine⟨λe he=>(each e (dH.1 he).1).1,λe he=>(each e (dH.1 he).1).2,FZ,ns,?_⟩;exact ff (lL _ _) (by omega)
def amX {r:Realm}(hr:RightD r){f:File}(h:PaperOK r f)(forum day:Int):eI r forum f day=-1\/(0<=eI r forum f day/\eI r forum f day<=100000/\0<=day):=by
 rcases au8 hr forum f day with e|⟨h0,h1⟩
 .exact .inl e
 .have au:(bx f day).signs≠[]:=λe=>by unfold eI at h0;rw[if_pos e] at h0;omega
  obtain⟨s,hs⟩:=List.exists_mem_of_ne_nil _ au;have hp:=cQ.1 List.all_takeWhile s hs;obtain⟨i,hi,rfl⟩:=fe ((Jo _).subset hs);have h2:=(h.sign i hi).day.1;have h3:=acO h i hi;simp at hp;exact .inr ⟨h0,h1,by omega⟩
def att {r:Realm}(forum:Int){f g:File}(h:MoreF f g)(day:Int){e:Effect}(he:e∈eY r forum f day):∃e',e'∈eY r forum g day/\e.sum<=e'.sum/\qf r e'=qf r e:=by
 obtain⟨hm,hl⟩:=dH.1 he;unfold rJ at hm;obtain⟨k,hk,rfl⟩:=bY.1 hm;have ho:=avQ r forum h.same day;have lX:=(h.same.at_ day).signs;have Gd:MoreF (gh r forum f day).file (bx g day):=h.at_ day;have L1:(gh r forum f day).form=0\/(gh r forum f day).form=1\/(gh r forum f day).form=2:=I0 _;have ns:=an6 Gd (k:Int) L1;have aqX:(jz (eu (gh r forum f day) (bx g day)) k).firm=(jz (gh r forum f day) k).firm:=by
  show((bx g day).signs.getD _ default).who=((bx f day).signs.getD _ default).who;rw[lX]
 have arx:(jz (eu (gh r forum f day) (bx g day)) k).kind=(jz (gh r forum f day) k).kind:=by
  show((bx g day).signs.getD _ default).kind=((bx f day).signs.getD _ default).kind;rw[lX]
 simp[RQ] at ns;obtain⟨⟨⟨g1,g2⟩,g3⟩,g4⟩:=ns;refine⟨jz (gh r forum g day) k,?_,?_,?_⟩
 .refine dH.2 ⟨bY.2 ⟨k,?_,rfl⟩,?_⟩
  .rw[ho];have:(eu (gh r forum f day) (bx g day)).file.signs=(gh r forum f day).file.signs:=lX;rw[this];exact hk
  .rw[ho];simp[MI] at hl ⊢;rw[arx,<-g4];refine⟨?_,hl.2⟩;rcases g1 with g1|g1
   .omega
   .rw[g1];exact hl.1
 .rw[ho];exact g3
 .rw[ho];unfold qf;rw[aqX]
def akp {r:Realm}(forum:Int){f g:File}(h:MoreF f g)(day:Int)(q:Quote):(jN r forum f day q).1<=(jN r forum g day q).1/\(jN r forum f day q).2=(jN r forum g day q).2:=by
 unfold jN;by_cases hc:kO q≠0\/¬wT r forum
 .rw[if_pos hc,if_pos hc];exact⟨pP _,rfl⟩
 .rw[if_neg hc,if_neg hc];have hQ:=(Hs (AA λe=>hc (.inl e))).2.2;exact⟨aBM hQ λe he=>att forum h day he,rfl⟩
def awA {r:Realm}(forum:Int){f g:File}(h:MoreF f g)(day:Int)(q:Quote):(me r forum f day q).1<=(me r forum g day q).1/\(me r forum f day q).2=(me r forum g day q).2:=by
 have hw:=akp (r:=r) forum h day q;unfold me;rw[<-hw.2,T5 r forum h.same];rcases akn r forum f day q with e|⟨hq,ho,e⟩
 .rw[e];simp
 .obtain⟨p0,p1,hQ⟩:=Hs hq;have h0:=akq (r:=r) (l:=eY r forum f day) hQ;rw[e] at hw ⊢;simp only at hw ⊢;rw[if_neg (by simp),if_neg (by simp)];exact awz h0 p0 hw.1
def apR (r:Realm)(f:File)(q:Quote):Prop:=q.fails.length<=20/\wj r f=true/\PaperOK r f
def alT (r:Realm)(hr:r.OK)(f:File)(FG:f.OK)(q:Quote):∃d,ah T 7 [aQ r,bW f,lP q] d/\∃b:Bool,d=.bool b/\(b=true->apR r f q):=by
 refine ah.ex_of_tree rfl alB azq ?_;simp[X4];by_cases hl:q.fails.length<=20
 case neg=>
  have qk:¬((q.fails.length:Int)<=20):=by omega
  simp[hl,qk]
  try exact⟨⟨_,aiU r f hr⟩,by simp⟩
 have qk:(q.fails.length:Int)<=20:=by omega
 simp[qk];refine⟨_,aiU r f hr,?_⟩;cases e1:tD r f
 .simp
 have hs:Small r:=Rx hr (by simp only[tD,ao] at e1;exact e1.1.1);simp;refine⟨_,awI r hs,?_⟩;by_cases e2:gW r=0
 case neg=>simp[e2]
 obtain⟨d,hd,e,rfl,he⟩:=av5 r hs f FG;simp[e2];refine⟨_,hd,?_⟩;simp;by_cases e0:e=0
 .exact .inr ⟨e0,hl,by simp[wj,e1,e2],he.1 e0⟩
 .exact .inl e0
def xP:Order:=⟨⟨#[103,101,110,101,118,97]⟩,false,[],[⟨0,.mk 1 1 []⟩,⟨1,.mk 1 1 []⟩,⟨2,.mk 2 15 []⟩]⟩
def bB:Realm:=⟨[⟨#[102,114,97,110,99]⟩],[⟨⟨#[76,121,111,110]⟩,0,0,[],[],[]⟩],[⟨3⟩,⟨5⟩],[⟨⟨#[97]⟩,0,1⟩,⟨⟨#[98]⟩,0,0⟩],[xP],[],[],[]⟩
def Au:Bill:=⟨0,1,0,1000,0,⟨3,40,0⟩,2,0,0,-1,0,1,1⟩
def cr (s d:Int):File:=⟨Au,[⟨0,0,0,-1,-1,0,2,0,0⟩,⟨1,0,1,-1,-1,s,3,0,0⟩],[],[],[⟨0,0,d⟩,⟨0,1,1⟩]⟩
def iy:Quote:=⟨100,[⟨1,1⟩,⟨1,1⟩,⟨1,1⟩,⟨1,10⟩,⟨1,1⟩,⟨1,2⟩,⟨1,1⟩,⟨1,1⟩,⟨1,1⟩,⟨1,1⟩]⟩
def aBQ:ah T 15 [] (aQ bB):=by
 refine zyw 2 azr ?_;simp[X5,zzy,aQ,bB,xP,strs,p8,groups,firms,orders,rules,choices,usances,rates,halts,-aH7]
 try rfl
def D5:ah T 17 [] (lP iy):=by
 refine zyw 3 azs ?_;simp[X6];refine aL.forRounds 10 (λk=>[.int k]) (λk=>[.list ((List.range 10).map λi=>if i<k then oK ⟨1,1⟩ else oK ⟨0,0⟩)]) ?_ (λk hk=>?_) ?_
 .simp
  try rfl
 .have hw:=bq hk (by omega);have bf:(k:Int)<10:=by omega
  rcases k with _|_|_|_|_|_|_|_|_|_|k
  all_goals first|omega|skip
  all_goals
   simp[ai8,N9]
   first|rfl|exact⟨aR (by omega),rfl⟩
 .simp[ai8,N9]
  try rfl
def D4 (s d:Int):ah T 18 [.int s,.int d] (bW (cr s d)):=by
 refine zyw 11 azp ?_;simp[X3]
 try rfl
def aB0:Small bB:=by
 refine⟨by decide,by decide,by decide,by decide,by decide,by decide,by decide,by decide,?_,?_,?_⟩
 .intro c hc;simp[bB] at hc;rcases hc with rfl;simp
 .intro o ho;simp[bB] at ho;rcases ho with rfl;simp[xP]
 .intro x hx;simp[bB] at hx
def I7:RightD bB:=⟨aB0,by decide,λh hh=>by simp[bB] at hh⟩
def aas:Right bB:=by
 have n:∀a k:Int,0<=a->a<=100->0<=k->k<=100->(Tm.mk a k []).OK:=λa k h1 h2 h3 h4=>.mk _ _ [] (Mv (by omega)) (Mv (by omega)) (by decide) (λ_ h=>by cases h);refine⟨?_,by decide,?_⟩
 .intro o ho;obtain rfl:o=xP:=by simpa [bB] using ho
  exact⟨by decide,λch h=>by simp[xP] at h⟩
 .intro o ho;obtain rfl:o=xP:=by simpa [bB] using ho
  refine⟨⟨⟨by decide,λch h=>by simp[xP] at h⟩,by decide,?_⟩,by decide⟩;intro x hx;simp[xP] at hx;rcases hx with rfl|rfl|rfl
  all_goals exact⟨Mv (by decide),n _ _ (by decide) (by decide) (by decide) (by decide)⟩
def aam (s d:Int):FewS (cr s d):=⟨by simp[cr],by simp[cr],by simp[cr],by simp[cr]⟩
def aBU (s d:Int)(h1:(bx (bx (cr s d) 4) 4).signs≠[])(h2:nN (bx (bx (cr s d) 4) 4)=-1)(h3:max (qE (kX bB 0 6 (bx (bx (cr s d) 4) 4) 4)) 0=0):eI bB 0 (bx (cr s d) 4) 4=40:=by
 have h5:mj bB 0 40=(40,0):=by kernel_rfl
 have h4:rE bB Au (-1) 0=mj bB 0 (40+0):=ach (b:=Au) I7 (by kernel_rfl) (by decide) (by decide) (by decide) rfl rfl (by decide) (by omega) (by show(40:Int)+0<=100000;omega);unfold eI;rw[if_neg h1,h2,h3,show(bx (cr s d) 4).bill=Au from rfl,h4,show(40:Int)+0=40 from rfl,h5];simp
def aal (s d:Int)(l:List Effect)(h1:(bx (bx (cr s d) 4) 4).signs≠[])(h2:nN (bx (bx (cr s d) 4) 4)=-1)(h3:max (qE (kX bB 0 6 (bx (bx (cr s d) 4) 4) 4)) 0=0)
 (h:((List.range (bx (cr s d) 4).signs.length).map λ(k:Nat)=>jz ⟨bB,0,4,bx (cr s d) 4,pJ (kX bB 0 0 (bx (cr s d) 4) 4),40⟩ k).filter MI=l):eY bB 0 (cr s d) 4=l:=by
 unfold eY rJ gh;rw[aBU s d h1 h2 h3];exact h
def aan:eY bB 0 (cr 1000 0) 4=[⟨1,1,1,1,0,1000,false⟩]:=aal 1000 0 _ (by decide) (by kernel_rfl) (by kernel_rfl) (by kernel_rfl)
def aku:eY bB 0 (cr 1000 1) 4=[⟨0,0,0,1,0,1000,true⟩,⟨1,1,1,1,0,1000,false⟩]:=aal 1000 1 _ (by decide) (by kernel_rfl) (by kernel_rfl) (by kernel_rfl)
def Pl:eY bB 0 (cr 600 1) 4=[⟨0,0,0,1,0,1000,true⟩,⟨1,1,1,1,0,600,false⟩]:=aal 600 1 _ (by decide) (by kernel_rfl) (by kernel_rfl) (by kernel_rfl)
def aar:kO iy=0:=by decide
def akz:mm iy.fails:=(Hs aar).2.2
def aBT:Je bB:=by
 intro f hf;simp[bB] at hf;rcases hf with rfl|rfl<;>decide
def akt:xT bB:=by
 intro g hg;simp[bB] at hg;rcases hg with rfl|rfl<;>decide
def aap {l:List Effect}(h1:∀e,e∈l->(0<=e.firm/\e.firm<2)/\0<=e.sum/\e.sum<=1000)(h2:l.length<=2):PayOK bB l:=
 ⟨λe he=>(h1 e he).1,λe he=>by have:=(h1 e he).2;omega,aBT,akt,by omega⟩
def aat {l l':List Effect}{n:Int}(hp:∀e,e∈l'↔e∈l)(hs:l'.Pairwise λa b=>a.sum<=b.sum)(h0:∀e,e∈l->0<=e.sum/\e.sum<=1000)(h:(iK (eR bB l iy.fails) (l'.map (·.sum))).1=n):lI bB l iy.fails=n:=by
 rw[<-ako (r:=bB) akz hp hs (λe he=>by have:=h0 e he;omega),h]
def akA:lI bB [⟨1,1,1,1,0,1000,false⟩] iy.fails=900:=aat (l':=[⟨1,1,1,1,0,1000,false⟩]) (λe=>Iff.rfl) (by simp) (by simp) (by kernel_rfl)
def aB1:lI bB [⟨0,0,0,1,0,1000,true⟩,⟨1,1,1,1,0,1000,false⟩] iy.fails=950:=aat (l':=[⟨0,0,0,1,0,1000,true⟩,⟨1,1,1,1,0,1000,false⟩]) (λe=>Iff.rfl) (by simp) (by simp) (by kernel_rfl)
def akB:lI bB [⟨0,0,0,1,0,1000,true⟩,⟨1,1,1,1,0,600,false⟩] iy.fails=770:=aat (l':=[⟨1,1,1,1,0,600,false⟩,⟨0,0,0,1,0,1000,true⟩]) (λe=>by simp[or_comm]) (by simp) (by simp) (by kernel_rfl)
def I8 (s d:Int){l:List Effect}{n:Int}(hl:eY bB 0 (cr s d) 4=l)(hw:lI bB l iy.fails=n):jN bB 0 (cr s d) 4 iy=(n,0):=by
 unfold jN;rw[if_neg (by rw[aar];simp;decide),hl,hw]
def aao (s d:Int)(h1:(bx (cr s d) 4).signs≠[])(h2:nN (bx (cr s d) 4)=-1)(h3:max (qE (kX bB 0 6 (bx (cr s d) 4) 4)) 0=0):eI bB 0 (cr s d) 4=40:=by
 have h5:mj bB 0 40=(40,0):=by kernel_rfl
 have h4:rE bB Au (-1) 0=mj bB 0 (40+0):=ach (b:=Au) I7 (by kernel_rfl) (by decide) (by decide) (by decide) rfl rfl (by decide) (by omega) (by show(40:Int)+0<=100000;omega);unfold eI;rw[if_neg h1,h2,h3,show(cr s d).bill=Au from rfl,h4,show(40:Int)+0=40 from rfl,h5];simp
def akv:eI bB 0 (cr 1000 0) 4=40:=aao 1000 0 (by decide) (by kernel_rfl) (by kernel_rfl)
def akw:eI bB 0 (cr 1000 1) 4=40:=aao 1000 1 (by decide) (by kernel_rfl) (by kernel_rfl)
def akx:eI bB 0 (cr 600 1) 4=40:=aao 600 1 (by decide) (by kernel_rfl) (by kernel_rfl)
def aBS:ah T 16 [aQ bB,ints [0,1],lP iy] (.tup [.int 50000000,.int 0]):=by
 have hc:=abU bB [0,1] iy (by intro g hg;simp at hg;rcases hg with rfl|rfl<;>decide) akt akz (by decide);rw[show ru bB [0,1] iy.fails=50000000 by kernel_rfl] at hc;have hk:=Pq iy (by decide);rw[aar] at hk;refine zyw 4 azL ?_;simp[Yo];refine⟨_,hk,?_⟩;refine aL.forRounds 2 (λk=>[.bool false,.int k]) (λ_=>[]) ?_ (λk hk=>?_) ?_
 .simp
 .rcases k with _|_|k
  .simp[Wb,HO,ints];decide
  .simp[Wb,HO,ints];decide
  .omega
 .simp[Wb,HO,ints];exact hc
def akX (r:Realm)(hr:Right r)(hd:RightD r)(forum:Int)(f:File)(day s:Int)(hf:FewS f)(ho:0<=forum/\forum<r.orders.length)(hp:PayOK r (eY r forum f day)):ah T 21 [aQ r,.int forum,bW f,.int day,.int s] (ints (jf r (eY r forum f day) s)):=by
 refine zyw 116 azO ?_;simp[Yq];refine⟨_,TI r forum,?_⟩;simp[ho];refine⟨_,aft r hr hd forum f day hf,?_⟩;exact ac1 r _ s hp.firms hp.len
def aBW:me bB 0 (cr 1000 0) 4 iy=(891,0):=by
 unfold me;rw[I8 1000 0 aan akA,akv];decide
def aBX:me bB 0 (cr 1000 1) 4 iy=(940,0):=by
 unfold me;rw[I8 1000 1 aku aB1,akw];decide
def aBY:me bB 0 (cr 600 1) 4 iy=(762,0):=by
 unfold me;rw[I8 600 1 Pl akB,akx];decide
def aky:PayOK bB (eY bB 0 (cr 1000 0) 4):=by rw[aan];exact aap (by simp) (by simp)
def aBZ:PayOK bB (eY bB 0 (cr 1000 1) 4):=by rw[aku];exact aap (by simp) (by simp)
def aaq:PayOK bB (eY bB 0 (cr 600 1) 4):=by rw[Pl];exact aap (by simp) (by simp)
def aks {s d n:Int}(hp:PayOK bB (eY bB 0 (cr s d) 4))(h:jN bB 0 (cr s d) 4 iy=(n,0)):ah T 10 [aQ bB,.int 0,bW (cr s d),.int 4,lP iy] (.tup [.int n,.int 0]):=by
 have:=Ju bB aas I7 0 (cr s d) 4 (aam s d) iy (by decide) hp
 rwa [h] at this
def aak {s d n:Int}(hp:PayOK bB (eY bB 0 (cr s d) 4))(h:me bB 0 (cr s d) 4 iy=(n,0))(hm:eI bB 0 (cr s d) 4=40):ah T 9 [aQ bB,.int 0,bW (cr s d),.int 4,lP iy] (.tup [.int n,.int 0]):=by
 have:=PQ bB aas I7 0 (cr s d) 4 (aam s d) iy (by decide) hp (Mv (by decide)) (.inr ⟨by omega,by omega,by omega⟩)
 rwa [h] at this
def aBV:ah T 19 [lP ⟨0,[]⟩] (.int 1):=by
 have:=Pq ⟨0,[]⟩ (by decide)
 rwa [show kO ⟨0,[]⟩=1 by decide] at this
def aBR:ah T 21 [aQ bB,.int 0,bW (cr 600 1),.int 4,.int 601] (ints [1]):=by
 have:=akX bB aas I7 0 (cr 600 1) 4 601 (aam 600 1) (by decide) aaq
 rwa [Pl,show jf bB [⟨0,0,0,1,0,1000,true⟩,⟨1,1,1,1,0,600,false⟩] 601=[1] by decide] at this
def axY:ah T 6 [] (.bool true):=by
 refine zyw 1 azt ?_;simp[X7];refine⟨_,aBQ,_,D5,_,aBS,_,D4 1000 0,_,D5,_,aks aky (I8 1000 0 aan akA),_,D4 1000 0,_,D5,_,aak aky aBW akv,_,D4 1000 1,_,D5,_,aak aBZ aBX akw,_,D4 600 1,_,D5,_,aks aaq (I8 600 1 Pl akB),_,D4 600 1,_,D5,_,aak aaq aBY akx,_,aBV,?_⟩;simp;exact⟨_,D4 600 1,_,aBR,awZ [1] (by decide)⟩
def aop {r:Realm}{f:File}(h:wj r f=true):f.facts.length<=220:=by
 unfold wj tD B3 at h;simp only[ao,decide_eq_true_eq] at h;omega
def apU {r:Realm}{f:File}(G:Good r f)(hg:wj r f=true){l:List Fact}(hl:l.length<=30):FewS (lO f l):=by
 have aGD:=aop hg;have hm:=PX f l;have:=abg f l;exact⟨by rw[hm.same.signs];exact G.few.signs,by rw[hm.same.alters];exact G.few.alters,by rw[hm.same.acts];exact G.few.acts,by have:=G.few.facts;omega⟩
def awf {r:Realm}{f:File}(G:Good r f)(hc:gW r=0)(hP:PaperOK r f)(forum day:Int){g:File}(h:MoreF f g):PayOK r (eY r forum g day):=by
 have dj:=Rp r forum g day;have rU:=G.few.signs;obtain⟨FZ,ns⟩:=ac0 hc;have hS:=hP.sums;have wv:SumsOK g:=⟨by rw[h.same.bill];exact hS.bill,by rw[h.same.bill];exact hS.rate,by rw[h.same.alters];exact hS.alters,by rw[h.same.signs];exact hS.signs⟩
 have each:∀e,e∈rJ r forum g day->(0<=e.firm/\e.firm<r.firms.length)/\0<=e.sum/\e.sum<=1099511627776:=by
  intro e he;unfold rJ at he;obtain⟨k,hk,rfl⟩:=bY.1 he;have bf:k<(bx g day).signs.length:=fy.1 hk;have h1:=acv (v:=gh r forum g day) (wv.at_ day) k (by omega) (by show(k:Int)<((bx g day).signs.length:Int);omega);refine⟨?_,by omega,h1.2⟩;have hm:(bx g day).signs[k]∈g.signs:=(Jo _).subset (bR bf);rw[h.same.signs] at hm;obtain⟨i,hi,e⟩:=fe hm;have h2:=(hP.sign i hi).who;have h3:(jz (gh r forum g day) k).firm=((bx g day).signs[k]).who:=by
   show((bx g day).signs.getD (k:Int).toNat default).who=_;simp[bf]
  rw[h3,<-e];exact h2
 refine⟨λe he=>(each e (dH.1 he).1).1,λe he=>(each e (dH.1 he).1).2,FZ,ns,?_⟩;exact ff (lL _ _) (by rw[h.same.signs] at dj;omega)
def ak5 (r:Realm)(hr:r.OK)(forum:Int)(f:File)(FG:f.OK)(day:Int)(u9:bh day)(q:Quote)(Ta:q.OK)(more:List Fact)(aHc:∀x,x∈more->x.OK):
 ah T 3 [aQ r,.int forum,bW f,.int day,lP q,facts more] (.bool true):=by
 refine zyw 0 azo ?_;simp[X2];obtain⟨d,hd,b,rfl,hb⟩:=alT r hr f FG q;refine⟨_,axY,_,hd,?_⟩;cases b
 .simp
 obtain⟨vg,hg,hP⟩:=hb rfl;have G:=apV hr hg;have jV:gW r=0:=by simp[wj] at hg;exact hg.2
 have Mk:q.fails.length<=4294967296:=by omega
 simp;intro hl;have qk:more.length<=30:=by omega
 have Mc:=PX f more;have adL:=apU G hg qk;have wD:=awg G jV hP forum day;have eP:=awf G jV hP forum day Mc;have bu:=amX G.rightD hP forum day;have dA:eI r forum (lO f more) day=-1\/(0<=eI r forum (lO f more) day/\eI r forum (lO f more) day<=100000/\0<=day):=by rw[T5 r forum Mc.same];exact bu
 have p1:=PQ r G.right G.rightD forum f day G.few q Mk wD u9 bu;have p2:=PQ r G.right G.rightD forum (lO f more) day adL q Mk eP u9 dA;have w1:=Ju r G.right G.rightD forum f day G.few q Mk wD;have w2:=Ju r G.right G.rightD forum (lO f more) day adL q Mk eP;obtain⟨m1,m2⟩:=awA (r:=r) forum Mc day q;obtain⟨n1,n2⟩:=akp (r:=r) forum Mc day q;refine aL.forRounds more.length (λk=>[.int k]) (λk=>[bW (lO f (more.take k))]) ?_ (λk hk=>?_) ?_
 .simp
  try rfl
 .have hw:=bq hk (by omega);have hlen:=abg f (more.take k);rw[dG] at hlen;have lX:(lO f (more.take k)).signs=f.signs:=(PX f (more.take k)).same.signs;have va:=G.few.facts;rw[alj f more hk];generalize lO f (more.take k)=g at*;simp[ai7,N8,hk,hw];generalize more[k]=x at*;have hm:((((0<=x.kind/\x.kind<5)/\0<=x.at_)/\x.at_<(f.signs.length:Int))/\0<=x.n)/\x.n<=1↔vn g x=true:=by
   simp[vn,and_assoc,lX]
  by_cases h:vn g x=true
  .rw[if_pos (hm.2 h),if_pos h];refine⟨_,ala g x (by omega),?_⟩;simp
  .rw[if_neg (λe=>h (hm.1 e)),if_neg h]
 .rw[Ei];simp[ai7,N8];refine⟨_,p1,_,p2,_,w1,_,w2,?_⟩;simp[m2,n2];rw[if_pos m1,decide_eq_true n1]
end Rm
