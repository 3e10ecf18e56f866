/-
  Shared texts of this claim.
-/
import Derived.Test.YtodhjdbleiakeaaGreatDoorKAP
set_option linter.unusedSimpArgs false
set_option linter.unusedVariables false
namespace Rm
open Go Go.Proofs Cx
def fW (g:Nat→Cell):D:=.list ((List.range 20).map fun i=>cF (g i))
theorem V3 {g g':Nat→Cell}(h:∀i,i<20→g i=g' i):fW g=fW g':=by
 unfold fW
 congr 1
 exact List.map_congr_left fun i hi=>by rw[h i (by simpa using hi)]
theorem V4 (g:Nat→Cell)(k:Nat)(c:Cell):D.list ((fW g).l.set k (cF c))=fW (fun i=>if i=k then c else g i):=by
 unfold fW
 congr 1
 show((List.range 20).map fun i=>cF (g i)).set k (cF c)=_;apply List.ext_getElem
 ·simp
 ·intro i h1 h2;simp at h2;rw[List.getElem_set];by_cases h:k=i
  ·simp[h]
  ·have h':¬i=k:=fun e=>h e.symm;simp[h,h']
@[simp] theorem aEl (g:Nat→Cell):(fW g).l.length=20:=by
  show((List.range 20).map fun i=>cF (g i)).length=20;simp
theorem D9 (g:Nat→Cell){k:Nat}(hk:k<20):(fW g).l[k]?.getD D.none=cF (g k):=by
 show((List.range 20).map fun i=>cF (g i))[k]?.getD D.none=cF (g k);simp[hk]
theorem ai9 (g:Nat→Cell){k:Nat}(hk:k<(fW g).l.length):(fW g).l[k]=cF (g k):=by
 have h:=D9 g (k:=k) (by simpa using hk);rw[List.getElem?_eq_getElem hk] at h;exact h
theorem ajb (g:Nat→Cell)(k:Nat)(c:Cell):(fW g).l.set k (cF c)=(fW (fun i=>if i=k then c else g i)).l:=congrArg D.l (V4 g k c)
theorem aja (g:Nat→Cell):D.list (fW g).l=fW g:=rfl
@[simp] theorem aH0 (x:Cell)(b:Bool)(n:Int):sL (cF x) 0 (D.agg [D.bool b,D.int n])=cF ⟨b,n⟩:=_root_.id rfl
def vZ {α:Type}(l:List (Int×α))(val:α→Cell)(g0:Nat→Cell)(i:Nat):Cell:=match l.find? (fun p=>decide (p.1=(i:Int))) with|some p=>val p.2|none=>g0 i
def pA {α:Type}(enc:α→D)(p:Int×α):D:=.tup [.int p.1,enc p.2]
theorem Zm {α:Type}{J o:Nat}{ps cH:List Nat}{a:PC}{ρ:Env}{Q:Out→Prop}(l:List (Int×α))(enc:α→D)(val:α→Cell)(g0:Nat→Cell)
 (nd:∀p q,p∈l→q∈l→p.1=q.1→p=q) (Sb:∀p,p∈l→0≤p.1) (he:ρ.o J=.tup [.list [],.map (l.map fun p=>(.int p.1,enc p.2))]) (h0:ρ.o o=fW g0)
 (step:∀p,p∈l→∀g done,aJ T (oz [o] a) ((ρ.put ps (cH.map (pA enc p).tget) [o] [fW g]).setO J (.tup [.list (done++[pA enc p]),.map (l.map fun p=>(.int p.1,enc p.2))])) (fun y=>∃ρ',y=.next ρ'∧ρ'.o o=.list ((fW g).l.set p.1.toNat (cF (val p.2)))))
 (last:Q (.next (ρ.put [] [] [o] [fW (vZ l val g0)]))):aO T (.meach J ps cH [o] a) ρ Q:=by
 have lR:gl (.map (l.map fun p=>((D.int p.1,enc p.2):D×D)))=l.map (pA enc):=by
  simp[gl,pA]
 refine .meachR _ he (fun done vo=>∃g:Nat→Cell,vo=[fW g]∧(∀p,p∈l→pA enc p∈done→g p.1.toNat=val p.2)∧∀i:Nat,(∀p,p∈l→pA enc p∈done→p.1≠i)→g i=g0 i) ⟨g0,by simp[h0],(fun p _ h=>by cases h),fun i _=>rfl⟩ (fun done x rest vo hp ⟨g,hv,lN,fL⟩=>?_) ⟨_,fun done hp vo ⟨g,hv,lN,fL⟩=>?_,last⟩
 ·subst hv;rw[lR] at hp;have hx:x∈l.map (pA enc):=hp.subset (by simp);obtain⟨p,eU,rfl⟩:=List.mem_map.mp hx;refine vF _ (fun y ⟨ρ',e,ho⟩=>⟨ρ',e,fun i=>if i=p.1.toNat then val p.2 else g i,by simp[ho,V4],fun q hq Oz=>?_,fun i hi=>?_⟩) (step p eU g done)
  ·have OA:=Sb q hq;have nP:=Sb p eU;by_cases h:q.1=p.1
   ·rw[nd q p hq eU h];simp
   ·show(if q.1.toNat=p.1.toNat then val p.2 else g q.1.toNat)=val q.2;rw[if_neg (by omega)];rcases List.mem_append.mp Oz with h1|h1
    ·exact lN q hq h1
    ·simp[pA] at h1;exact absurd h1.1 h
  ·have nP:=Sb p eU;have cU:=hi p eU (by simp);show(if i=p.1.toNat then val p.2 else g i)=g0 i;rw[if_neg (by omega)];exact fL i fun q hq Oz=>hi q hq (by simp[Oz])
 ·rw[hv,lR] at*
  congr 1
  refine V3 fun i hi=>?_;unfold vZ;cases hf:l.find? (fun p=>decide (p.1=(i:Int))) with
  |some p=>
   have eU:=List.mem_of_find?_eq_some hf;have GM:p.1=(i:Int):=by simpa using List.find?_some hf
   have:=lN p eU (hp.symm.subset (List.mem_map_of_mem eU));simp only;rw[←this,GM];rfl
  |none=>
   refine fL i fun p eU _=>?_;have:=List.find?_eq_none.mp hf p eU;simpa using this
@[simp] theorem aGy (a b:Int):dO (D.int a) (D.int b)=decide (a=b):=by
  show((a==b)&&true)=decide (a=b);rw[Bool.and_true];by_cases h:a=b<;>simp[h]
def AE (n k:Int):Bool:=decide (cY .and .i64 n k≠0)
def wY (s:Sign)(due:Int):Int:=if due=-1 then 0 else s.day-due
def oJ (f:File)(sign:Int):Bool:=(List.range f.alters.length).any fun k=>decide ((f.alters.getD k default).at_≤sign)
def iN (c:Case):Int:=if c.holder<0 then 0 else c.holder
def oA (c:Case)(s:Sign):List (Int×Int):=[(0,c.file.bill.sum),(1,c.file.bill.parts),(2,c.file.bill.tenor.kind),(3,c.file.bill.rate),(4,s.kind),(5,c.defence),(6,wY s c.due)]
def oB (r:Realm)(c:Case)(s:Sign):List (Int×Bool):=[(7,AE c.file.bill.flags 1),(8,decide (c.file.bill.payee=-1)),(9,AE c.file.bill.flags 4),(10,AE c.file.bill.flags 2),(11,decide (fj r c.file.bill.city≠fj r c.file.bill.pay)),(12,oJ c.file c.sign),(13,AE s.flags 1),(14,decide (0<wY s c.due))]
def FW (r:Realm)(c:Case)(s:Sign):List Cell:=
 (oA c s).map (fun p=>⟨true,p.2⟩)++(oB r c s).map (fun p=>fT p.2)++
    [fK c.file 0 c.sign,fK c.file 1 c.sign,fK c.file 2 c.sign,fK c.file 3 (iN c),fK c.file 4 (iN c)]
@[simp] theorem aDU (x:Case):iu 19 (eO x)=cD x.file:=_root_.id rfl
@[simp] theorem aDS (x:Case):iu 15 (eO x)=dg x.file.bill:=_root_.id rfl
@[simp] theorem aDT (x:File):iu 15 (cD x)=dg x.bill:=_root_.id rfl
def np (c:Case):Bool:=aw c.sign c.file.signs.length&&decide (-1≤c.holder)&&decide (iN c<c.file.signs.length)&&(decide (c.due=-1)||aw c.due 100001)
def gG (r:Realm)(c:Case):List Cell:=if np c=true∧aw (c.file.signs.getD c.sign.toNat default).day 100001=true then FW r c (c.file.signs.getD c.sign.toNat default) else[]
theorem axu (r:Realm)(c:Case)(h2:c.file.facts.length≤100000)(h3:c.file.alters.length≤100000):ak T aa1 [aZ r,eO c] (cells (gG r c)):=by
 refine .of_tree rfl ah3 az7 ?_;cases hs:aw c.sign c.file.signs.length
 ·have hv:gG r c=[]:=by unfold gG np;rw[hs];simp
  rw[hv];simp[sP];refine⟨_,ox _ _,?_⟩;simp[hs];rfl
 by_cases hh:c.holder< -1
 ·have hv:gG r c=[]:=by unfold gG np;rw[hs];simp;intros;omega
  rw[hv];simp[sP,hh];exact⟨⟨_,ox _ _⟩,rfl⟩
 by_cases hm:(c.file.signs.length:Int)≤iN c
 ·have hv:gG r c=[]:=by unfold gG np;rw[hs];simp;intros;omega
  rw[hv];unfold iN at hm;simp[sP,hm];exact⟨⟨_,ox _ _⟩,rfl⟩
 by_cases hd:c.due≠-1∧aw c.due 100001=false
 ·have hv:gG r c=[]:=by unfold gG np;rw[hs];simp[hd]
  rw[hv];unfold iN at hm;obtain⟨bj,cZ⟩:=hd;simp[sP,hh,hm,bj];refine⟨_,ox _ _,?_⟩;simp[hs,hh,hm,bj];refine⟨_,ox _ _,?_⟩;simp[hs,hh,hm,bj,cZ];rfl
 have hcb:np c=true:=by
  unfold np;rw[hs];simp;refine⟨⟨by omega,by omega⟩,?_⟩;by_cases h:c.due=-1
  ·exact .inl h
  ·right;cases hb:aw c.due 100001
   ·exact absurd ⟨h,hb⟩ hd
   ·rfl
 have hlen:c.sign.toNat<c.file.signs.length:=by simp[aw] at hs;omega
 have dF:0≤c.sign∧c.sign<(c.file.signs.length:Int):=by simpa [aw] using hs
 obtain⟨s,rP⟩:∃s:Sign,s=c.file.signs[c.sign.toNat]:=⟨_,rfl⟩
 have mM:c.file.signs.getD c.sign.toNat default=s:=by rw[rP];simp[hlen]
 have hv:gG r c=if aw s.day 100001=true then FW r c s else[]:=by
  unfold gG;rw[mM,hcb];simp
 rw[hv];unfold iN at hm;by_cases A0:c.due=-1
 case' pos=>
  have Xy:(c.due=-1)=True:=eq_true A0;simp[sP,hh,hm,Xy];refine⟨_,ox _ _,?_⟩;simp[hs,hh,hm,Xy,hlen,←rP,dF]
 case' neg=>
  have AX:aw c.due 100001=true:=by
   cases hb:aw c.due 100001
   ·exact absurd ⟨A0,hb⟩ hd
   ·rfl
  simp[sP,hh,hm,A0];refine⟨_,ox _ _,?_⟩;simp[hs,hh,hm,A0];refine⟨_,ox _ _,?_⟩;simp[hs,hh,hm,A0,AX,hlen,←rP,dF]
 all_goals
  refine⟨_,ox _ _,?_⟩;cases tO:aw s.day 100001
  ·simp[tO];rfl
  simp[tO,jQ];refine Zm (oA c s) D.int (fun n=>⟨true,n⟩) (fun _=>dK) ?_ ?_ ?_ ?_ (fun p hp g done=>?_) ?_
  ·intro p q hp hq h;simp[oA] at hp hq;rcases hp with rfl|rfl|rfl|rfl|rfl|rfl|rfl<;>rcases hq with rfl|rfl|rfl|rfl|rfl|rfl|rfl<;>first|rfl|(simp at h)
  ·intro p hp;simp[oA] at hp;rcases hp with rfl|rfl|rfl|rfl|rfl|rfl|rfl<;>simp
  ·have NR:(if c.due=-1 then(0:Int) else IntKind.i64.wrap (s.day-c.due))=wY s c.due:=by
        unfold wY;by_cases h:c.due=-1
        ·simp[h]
        ·have AX:aw c.due 100001=true:=by
          cases hb:aw c.due 100001
          ·exact absurd ⟨h,hb⟩ hd
          ·rfl
         simp[aw] at AX tO;rw[if_neg h,if_neg h];exact bD (by omega)
   simp[oA,jQ,hlen,←rP];rw[←NR];by_cases h:c.due=-1<;>simp[h]
  ·simp[fW];rfl
  ·have hr:0≤p.1∧p.1<20:=by
        simp[oA] at hp;rcases hp with rfl|rfl|rfl|rfl|rfl|rfl|rfl<;>simp
   have hk:p.1.toNat<20:=by omega
   simp[axk,RT,pA,D9 g hk];exact hr
  have arR:∀k (hk:k<c.file.alters.length),ak T aa2 (nA c.file.alters[k]::[.ref (eO c)]) (.bool (decide ((c.file.alters.getD k default).at_≤c.sign))):=fun k hk=>by
   refine .of_tree rfl ah4 az6 ?_;simp[Ui,hk]
  simp;refine⟨_,afL c.file.alters _ _ _ arR (by omega),_,ou r _,_,ou r _,?_⟩;have NR:(if c.due=-1 then(0:Int) else IntKind.i64.wrap (s.day-c.due))=wY s c.due:=by
   unfold wY;by_cases h:c.due=-1
   ·simp[h]
   ·have AX:aw c.due 100001=true:=by
     cases hb:aw c.due 100001
     ·exact absurd ⟨h,hb⟩ hd
     ·rfl
    simp[aw] at AX tO;rw[if_neg h,if_neg h];exact bD (by omega)
  have NQ:cells (FW r c s)=fW (fun i=>if i=15 then fK c.file 0 c.sign else if i=16 then fK c.file 1 c.sign else if i=17 then fK c.file 2 c.sign else if i=18 then fK c.file 3 (iN c) else if i=19 then fK c.file 4 (iN c) else vZ (oB r c s) fT (vZ (oA c s) (fun n=>⟨true,n⟩) (fun _=>dK)) i):=by
   rfl
  generalize vZ (oA c s) (fun n=>(⟨true,n⟩:Cell)) (fun _=>dK)=g1 at*;refine Zm (oB r c s) D.bool fT g1 ?_ ?_ ?_ ?_ (fun p hp g done=>?_) ?_
  ·intro p q hp hq h;simp[oB] at hp hq;rcases hp with rfl|rfl|rfl|rfl|rfl|rfl|rfl|rfl<;>rcases hq with rfl|rfl|rfl|rfl|rfl|rfl|rfl|rfl<;>first|rfl|(simp at h)
  ·intro p hp;simp[oB] at hp;rcases hp with rfl|rfl|rfl|rfl|rfl|rfl|rfl|rfl<;>simp
  ·simp[oB,jQ,hlen,←rP,AE];rw[←NR];by_cases h:c.due=-1<;>simp[h,oJ]
  ·simp
  ·have hr:0≤p.1∧p.1<20:=by
        simp[oB] at hp;rcases hp with rfl|rfl|rfl|rfl|rfl|rfl|rfl|rfl<;>simp
   have hk:p.1.toNat<20:=by omega
   simp[axl,RU,pA,D9 g hk];refine⟨_,aeD _,?_⟩;simp[D9 g hk];exact hr
  simp;generalize vZ (oB r c s) fT g1=g2 at*;have NT:(if c.holder<0 then D.int 0 else D.int c.holder)=D.int (iN c):=by
   unfold iN;split<;>rfl
  rw[NT];refine⟨_,Dl _ _ _ (by omega),_,Dl _ _ _ (by omega),_,Dl _ _ _ (by omega),_,Dl _ _ _ (by omega),_,Dl _ _ _ (by omega),?_⟩;rw[NQ];simp only[ai9,ax9,ajb,aja];refine V3 fun i hi=>?_;by_cases F1:i=15
  ·subst F1;simp
  by_cases F2:i=16
  ·subst F2;simp
  by_cases F3:i=17
  ·subst F3;simp
  by_cases F4:i=18
  ·subst F4;simp
  by_cases W7:i=19
  ·subst W7;simp
  simp[F1,F2,F3,F4,W7]
end Rm
namespace Rm
open Go Go.Proofs Cx
def HK (n:Nat)(x:Int):Bool:=decide (x<0)||decide ((n:Int)≤x)
def kI (r:Realm)(a q:Int)(l:List Int):Bool:=
 !(decide (a<0)||decide ((r.orders.length:Int)≤a)||decide (q<0)||decide (22≤q)||decide (l.length≠5))&& !((List.range l.length).any fun k=>HK r.orders.length (l.getD k 0))
theorem ans (x n:Int):ak T Px [.int x,.ref (.int n)] (.bool (decide (x<0)||decide (n≤x))):=by
 refine .of_tree rfl agQ ayS ?_;by_cases h:x<0<;>simp[S4,h]
theorem WJ (r:Realm)(a q:Int)(l:List Int)(hl:l.length≤100000):ak T Z4 [aZ r,.int a,.int q,ints l] (.bool (kI r a q l)):=by
 refine .of_tree rfl agP ayT ?_;by_cases h1:a<0
 ·simp[sO,kI,h1]
 by_cases h2:(r.orders.length:Int)≤a
 ·simp[sO,kI,h1,h2]
 by_cases h3:q<0
 ·simp[sO,kI,h1,h2,h3]
 by_cases h4:22≤q
 ·simp[sO,kI,h1,h2,h3,h4]
 by_cases h5:(l.length:Int)=5
 ·have F6:l.length=5:=by omega
  simp[sO,h1,h2,h3,h4,F6];refine⟨_,afM l Px [.ref (.int r.orders.length)] (fun k=>HK r.orders.length (l.getD k 0)) (fun k hk=>by simpa [HK,hk] using ans l[k] r.orders.length) (by omega),?_⟩;simp only[kI,F6];simp[h1,h2,h3,h4]
 ·have F6:¬l.length=5:=by omega
  simp[sO,kI,h1,h2,h3,h4,F6];intro h;omega
theorem M7 {r:Realm}{a q:Int}{l:List Int}(h:kI r a q l=true):(0≤a∧a<r.orders.length)∧l.length=5∧(∀x,x∈l→0≤x∧x<r.orders.length)∧∀b:Int,0≤b→b<r.orders.length→kI r b q l=true:=by
 unfold kI at h ⊢;rw[Bool.and_eq_true] at h;obtain⟨h1,h2⟩:=h;simp at h1;refine⟨by omega,h1.2,fun x hx=>?_,fun b iI dh=>?_⟩
 ·obtain⟨k,hk,rfl⟩:=List.getElem_of_mem hx;simp[HK] at h2;have:=h2 k hk;simp[hk] at this;omega
 ·rw[h2];simp;omega
def yz (r:Realm):Prop:=∀o,o∈r.orders→o.choices.length≤100000∧∀ch,ch∈o.choices→0≤ch.by_∧ch.by_<5
def uw (q:Int)(ch:Choice):Bool:=decide (ch.ask=q)&&decide (ch.by_≠0)
def mU (r:Realm)(a:Int):Order:=r.orders.getD a.toNat default
def fi (r:Realm)(a q:Int)(l:List Int):Int×Bool:=
 (match(mU r a).choices.find? (uw q) with|some ch=>l.getD ch.by_.toNat 0|none=>a,match(mU r a).choices.find? (uw q) with|some ch=>ch.whole|none=>false)
theorem Vj (r:Realm)(nH:yz r)(a q:Int)(l:List Int)(hl:l.length≤100000)(hf:kI r a q l=true):
 ak T Z3 [aZ r,.int a,.int q,ints l] (.tup [.int (fi r a q l).1,.bool (fi r a q l).2])∧0≤(fi r a q l).1∧(fi r a q l).1<r.orders.length:=by
 obtain⟨ha,XT,hx,_⟩:=M7 hf;have wu:a.toNat<r.orders.length:=by omega
 obtain⟨bf,kK⟩:=nH _ (List.getElem_mem wu);obtain⟨o,ho⟩:∃o,o=r.orders[a.toNat]:=⟨_,rfl⟩
 rw[←ho] at bf kK;have Oh:mU r a=o:=by rw[ho];simp[mU,wu]
 unfold fi;rw[Oh];refine⟨?_,?_⟩
 ·refine .of_tree rfl agO ayR ?_;simp[SZ];refine⟨_,WJ r a q l hl,?_⟩;simp[hf,wu,←ho,ha];refine aO.scan o.choices.length (fun k=>uw q (o.choices.getD k default)=false) (fun k=>[.int 0,.bool false,.int k]) (fun _=>[]) ?_ (fun k hk hj aA=>?_) (fun k hk hj aA=>?_) (fun hj=>?_)
  ·simp
  ·have hw:=bl hk (by omega);have hn:¬(o.choices[k].ask=q∧¬o.choices[k].by_=0):=by simpa [uw,hk] using aA
   simp[Rh,Cv,wu,←ho,hk,hw,hn]
  ·have gy:=tD hk (by simpa [hk] using aA) (fun j bB=>by have:=hj j bB;simpa [show j<o.choices.length by omega] using this);rw[gy];have hc:o.choices[k].ask=q∧¬o.choices[k].by_=0:=by simpa [uw,hk] using aA
   have hb:=kK _ (List.getElem_mem hk);have Gg:o.choices[k].by_.toNat<l.length:=by omega
   simp[Rh,Cv,wu,←ho,hk,hc,ints,Gg];omega
  ·have gy:=v3 (l:=o.choices) (p:=uw q) (fun j bB=>by have:=hj j bB;simpa [bB] using this);rw[gy];simp[Rh,Cv,wu,←ho]
 ·cases gy:o.choices.find? (uw q) with
  |none=>exact ha
  |some ch=>
   have hb:=kK _ (List.mem_of_find?_eq_some gy);have Gg:ch.by_.toNat<l.length:=by omega
   simp[Gg];exact hx _ (List.getElem_mem Gg)
theorem QH:∀(N:Nat) (l:List Int),l.Nodup→(∀x,x∈l→0≤x∧x<(N:Int))→l.length≤N
 |0,l,hn,h=>by
  cases l with
  |nil=>simp
  |cons a l=>have:=h a (by simp);omega
 |N+1,l,hn,h=>by
  by_cases hm:(N:Int)∈l
  ·have h1:=QH N (l.erase (N:Int)) (hn.erase _) (fun x hx=>by
    have cQ:=(hn.mem_erase_iff).mp hx;have:=h x cQ.2;have aD:=cQ.1;omega)
   rw[List.length_erase_of_mem hm] at h1;omega
  ·have h1:=QH N l hn (fun x hx=>by
    have:=h x hx;have aD:x≠(N:Int):=fun e=>hm (e▸hx);omega)
   omega
def cW (l:List Int):Int:=l.getD (l.length-1) 0
def jN (r:Realm)(q:Int)(l:List Int):Nat→List Int→List Int×Int
 |0,p=>(p,0)
 |n+1,p=>
  if(fi r (cW p) q l).1=cW p then(p,0)
  else if(fi r (cW p) q l).2=false∨(hasB p (fi r (cW p) q l).1=true∧(mU r (fi r (cW p) q l).1).accepts=true) then(p++[(fi r (cW p) q l).1],0)
  else if hasB p (fi r (cW p) q l).1=true then(p++[(fi r (cW p) q l).1],12)
  else jN r q l n (p++[(fi r (cW p) q l).1])
theorem Pe (r:Realm)(q:Int)(l:List Int)(n:Nat)(p:List Int):jN r q l (n+1) p=
 if(fi r (cW p) q l).1=cW p then(p,0)
 else if(fi r (cW p) q l).2=false∨(hasB p (fi r (cW p) q l).1=true∧(mU r (fi r (cW p) q l).1).accepts=true) then(p++[(fi r (cW p) q l).1],0)
 else if hasB p (fi r (cW p) q l).1=true then(p++[(fi r (cW p) q l).1],12)
 else jN r q l n (p++[(fi r (cW p) q l).1]):=rfl
def gU (r:Realm)(a q:Int)(l:List Int):List Int×Int:=if kI r a q l=true∧l.getD 0 0=a then jN r q l r.orders.length [a] else([],1)
theorem afY (r:Realm)(nH:yz r)(hn:r.orders.length≤100000)(a q:Int)(l:List Int)(hl:l.length≤100000):ak T Z2 [aZ r,.int a,.int q,ints l] (.tup [ints (gU r a q l).1,.int (gU r a q l).2]):=by
 refine .of_tree rfl agN ayQ ?_;simp[SY];refine⟨_,WJ r a q l hl,?_⟩;cases hf:kI r a q l
 ·simp[gU,hf];rfl
 obtain⟨ha,XT,hx,wk⟩:=M7 hf;have h0:0<l.length:=by omega
 by_cases Bc:l[0]=a
 ·have hE:gU r a q l=jN r q l r.orders.length [a]:=by unfold gU;rw[if_pos ⟨hf,by simp[h0,Bc]⟩]
  rw[hE];simp[h0,Bc,ints];refine aO.forLoop (α:=Nat×List Int) (fun s vr vo=>vr=[.list [],.int 0,.none]∧vo=[ints s.2]∧s.2.Nodup∧(∀x,x∈s.2→0≤x∧x<(r.orders.length:Int))∧s.2≠[]∧s.1+s.2.length=r.orders.length+1∧jN r q l s.1 s.2=jN r q l r.orders.length [a]) (fun s=>s.1) (r.orders.length,[a]) ?_ ?_
  ·simp[ints];exact ha
  ·rintro⟨n,p⟩ vr vo ⟨rfl,rfl,bh,bA,aD,hlen,Bd⟩;simp only at*;have eU:p.length≤r.orders.length:=QH _ p bh bA;have Ov:0<p.length:=List.length_pos_iff.mpr aD;obtain⟨m,rfl⟩:∃m,n=m+1:=⟨n-1,by omega⟩
   have ah:p.length-1<p.length:=by omega
   have jJ:cW p=p[p.length-1]:=by simp[cW,ah]
   have tV:=bA _ (List.getElem_mem ah);rw[←jJ] at tV;obtain⟨Nu,fM,fN⟩:=Vj r nH (cW p) q l hl (wk _ tV.1 tV.2);have NZ:((p.length:Int)-1).toNat=p.length-1:=by omega
   have O1:IntKind.i64.wrap ((p.length:Int)-1)=(p.length:Int)-1:=bD (by omega);rw[←Bd,Pe];obtain⟨L,hL⟩:∃L,L=fi r (cW p) q l:=⟨_,rfl⟩
   rw[←hL] at Nu fM fN ⊢;obtain⟨to,whole⟩:=L;simp only at Nu fM fN;have uh:to.toNat<r.orders.length:=by omega
   have Oh:mU r to=r.orders[to.toNat]:=by simp[mU,uh]
   simp only[Oh];simp[axi,Rg,O1,NZ,ah,←jJ,ints];refine⟨by omega,_,Nu,?_⟩;by_cases h1:to=cW p
   ·simp[h1]
   simp[h1];refine⟨_,pW p to (by omega),by omega,?_⟩;cases whole
   ·simp
   cases h2:hasB p to
   ·have cP:to∉p:=fun hm=>by
     have:hasB p to=true:=by simp[hasB,hm]
     rw[h2] at this;cases this
    simp[h2];refine⟨m,by omega,p++[to],by simp,?_,?_,by simp,by simp;omega,rfl⟩
    ·exact List.nodup_append.mpr ⟨bh,by simp,fun x hx y hy=>by simp at hy;subst hy;exact fun e=>cP (e▸hx)⟩
    ·intro x hx;rcases List.mem_append.mp hx with h|h
     ·exact bA x h
     ·simp at h;subst h;exact⟨fM,fN⟩
   ·cases h3:r.orders[to.toNat].accepts<;>simp[h2,h3,uh]<;>omega
 ·have hE:gU r a q l=([],1):=by unfold gU;rw[if_neg (by simp[h0,Bc])]
  rw[hE];simp[h0,Bc];rfl
end Rm
namespace Rm
open Go Go.Proofs Cx
def dm (f:File)(i:Int):Sign:=f.signs.getD i.toNat default
def ju (r:Realm)(forum:Int)(c:Case):List Int:=[forum,fj r (dm c.file c.sign).city,fj r c.file.bill.pay,fj r c.file.bill.city,fj r (r.firms.getD (dm c.file c.sign).who.toNat default).city]
def lF (r:Realm)(forum:Int)(c:Case):Prop:=(dm c.file c.sign).who<0∨(r.firms.length:Int)≤(dm c.file c.sign).who∨forum<0∨(r.orders.length:Int)≤forum
instance (r:Realm) (forum:Int) (c:Case):Decidable (lF r forum c):=by unfold lF;infer_instance
def gD (r:Realm)(forum:Int)(c:Case):List Int:=if lF r forum c then[] else if hasB (ju r forum c) (-1)=true then[] else ju r forum c
@[simp] theorem aEd (r:Realm)(x:Int):vN (aZ r) x=fj r x:=by
  unfold vN fj aw;by_cases h:0≤x∧x<(r.cities.length:Int)
  ·have hx:x.toNat<r.cities.length:=by omega
   rw[if_pos (by simpa using h),if_pos (by simpa using h)];simp[hx]
  ·rw[if_neg (by simpa using h),if_neg (by simpa using h)]
theorem adz (r:Realm)(forum:Int)(c:Case)(h1:c.sign.toNat<c.file.signs.length):QI [aZ r,.int forum,eO c]=ints (gD r forum c):=by
 have hs:dm c.file c.sign=c.file.signs[c.sign.toNat]:=by simp[dm,h1]
 unfold QI gD;simp[h1];by_cases hb:lF r forum c
 ·rw[if_pos (by simpa [lF,hs] using hb),if_pos hb];rfl
 ·rw[if_neg (by simpa [lF,hs] using hb),if_neg hb];have uk:(dm c.file c.sign).who.toNat<r.firms.length:=by unfold lF at hb;omega
  have Yw:c.file.signs[c.sign.toNat].who.toNat<r.firms.length:=by rw[←hs];exact uk
  have jh:ju r forum c=[forum,fj r c.file.signs[c.sign.toNat].city,fj r c.file.bill.pay,fj r c.file.bill.city,fj r r.firms[c.file.signs[c.sign.toNat].who.toNat].city]:=by
   simp[ju,hs,Yw]
  have cJ:∀l:List Int,hasB l (-1)=true↔-1∈l:=fun l=>by simp[hasB]
  rw[jh];simp[Yw];split
  ·rename_i h;rw[if_pos ((cJ _).mpr (by simpa using h))];rfl
  ·rename_i h;rw[if_neg (fun h'=>h (by simpa using(cJ _).mp h'))]
theorem awx (r:Realm)(forum:Int)(c:Case)(h1:0≤c.sign∧c.sign<c.file.signs.length):ak T avm [aZ r,.int forum,eO c] (ints (gD r forum c)):=by
 have cg:c.sign.toNat<c.file.signs.length:=by omega
 rw[←adz r forum c cg];have hs:dm c.file c.sign=c.file.signs[c.sign.toNat]:=by simp[dm,cg]
 refine ak.of_nsl rfl ayC ayD ?_;rw[adz r forum c cg];by_cases hb:lF r forum c
 ·refine .inr ⟨by simp[gD,hb];rfl,?_⟩;have fA:=hb;simp[lF,hs] at fA;simp[Lp,h1,cg]
  intros;omega
 have oW:gD r forum c=if hasB (ju r forum c) (-1)=true then[] else ju r forum c:=by unfold gD;rw[if_neg hb]
 have fA:=hb;simp[lF,hs] at fA;have hw:c.file.signs[c.sign.toNat].who.toNat<r.firms.length:=by omega
 have hC:=pW (ju r forum c) (-1) (by simp[ju]);cases hh:hasB (ju r forum c) (-1)<;>rw[hh] at hC<;>simp[ju,ints,hs,hw] at hC
 ·refine .inl ⟨(ju r forum c).map .int,by simp[ju],by rw[oW,hh];rfl,?_⟩;simp[SL,h1,cg,hw];rw[if_neg (by omega)];refine⟨_,ou r _,_,ou r _,_,ou r _,by omega,_,ou r _,_,by simpa using hC,?_⟩;simp[ju,hs,hw]
 ·refine .inr ⟨by rw[oW,hh];rfl,?_⟩;simp[Lp,h1,cg,hw]
  intros
  refine⟨_,ou r _,_,ou r _,_,ou r _,by omega,_,ou r _,_,by simpa using hC,?_⟩;simp
end Rm
namespace Rm
open Go Go.Proofs Cx
structure Right (r:Realm):Prop where
 by_:yz r
 len:r.orders.length≤100000
 ok:∀o,o∈r.orders→o.OK∧o.rules.length≤100000
structure FewS (f:File):Prop where
 signs:f.signs.length≤1000
 alters:f.alters.length≤1000
 acts:f.acts.length≤1000
 facts:f.facts.length≤1000
theorem afv {α:Type}(p:α→Bool)(l:List α):(l.takeWhile p).length≤l.length:=by
 obtain⟨m,h1,h2,_⟩:=vu p l;rw[h2,List.length_take];omega
theorem FewS.at_ {f:File}(h:FewS f)(day:Int):FewS (aI f day):=
 ⟨Nat.le_trans (afv _ _) h.1,Nat.le_trans (List.length_filter_le _ _) h.2,Nat.le_trans (afv _ _) h.3,Nat.le_trans (List.length_filter_le _ _) h.4⟩
def aW (c:Case):Case:={c with file:=aI c.file c.day}
@[simp] theorem aD4 (x:File)(a0 a1 a2 a3 a4 a5 a6 a7 a8 a9 jZ j0 j3 j4 j5 lx ly lz lC:D)(s h d u y:Int):iu 24 (D.agg (cM [a0,a1,a2,a3,a4,a5,a6,a7,a8,a9,jZ,j0,j3,j4,j5,lx,ly,lz,lC,.int s,.int h,.int d,.int u,.int y] 0 [.int x.bill.drawer,.int x.bill.drawee,.int x.bill.payee,.int x.bill.sum,.int x.bill.currency,.int x.bill.tenor.kind,.int x.bill.tenor.n,.int x.bill.tenor.unit,.int x.bill.day,.int x.bill.city,.int x.bill.pay,.int x.bill.need,.int x.bill.rate,.int x.bill.flags,.int x.bill.parts,signs x.signs,alters x.alters,acts x.acts,facts x.facts]))=eO ⟨x,s,h,d,u,y⟩:=_root_.id rfl
theorem agt (r:Realm)(c:Case)(hf:FewS c.file):ak T ZN [aZ r,eO c] (.tup [eO (aW c),cells (gG r (aW c))]):=by
 refine .of_tree rfl agB ayB ?_;simp[SK];have h1:=hf.1;have h2:=hf.2;have h3:=hf.3;have h4:=hf.4;refine⟨_,R5 c.file c.day (by omega) (by omega) (by omega) (by omega),?_⟩;have Gn:=hf.at_ c.day;have h5:=Gn.4;have h6:=Gn.2;simp;exact⟨axu r (aW c) (by show(aI c.file c.day).facts.length≤_;omega) (by show(aI c.file c.day).alters.length≤_;omega),(congrArg (iu 24) (awg (aW c) _ _ _ _ _ _ _ _ _ _ _ _ _ _ _ _ _ _ _ _ _ _ _ _)).trans (agh (aW c))⟩
theorem aAY {r:Realm}{c:Case}(h:gG r c≠[]):0≤c.sign∧c.sign<c.file.signs.length:=by
 unfold gG at h;split at h
 ·rename_i hh;have h1:=hh.1;unfold np at h1;simp[aw] at h1;omega
 ·exact absurd rfl h
theorem YS (r:Realm)(nH:yz r)(q:Int)(l:List Int)(hl:l.length≤100000)(wk:∀b:Int,0≤b→b<r.orders.length→kI r b q l=true):∀(n:Nat) (p:List Int),p≠[]→(∀x,x∈p→0≤x∧x<(r.orders.length:Int))→
 (jN r q l n p).1≠[]∧∀x,x∈(jN r q l n p).1→0≤x∧x<(r.orders.length:Int)
 |0,p,aD,hp=>⟨aD,hp⟩
 |n+1,p,aD,hp=>by
  have ah:p.length-1<p.length:=by have:=List.length_pos_iff.mpr aD;omega
  have jJ:cW p=p[p.length-1]:=by simp[cW,ah]
  have tV:=hp _ (List.getElem_mem ah);rw[←jJ] at tV;obtain⟨_,ht⟩:=Vj r nH (cW p) q l hl (wk _ tV.1 tV.2)
  have aR:∀x,x∈p++[(fi r (cW p) q l).1]→0≤x∧x<(r.orders.length:Int):=fun x hx=>by
   rcases List.mem_append.mp hx with h|h
   ·exact hp x h
   ·simp at h;subst h;exact ht
  rw[Pe];split
  ·exact⟨aD,hp⟩
  split
  ·exact⟨by simp,aR⟩
  split
  ·exact⟨by simp,aR⟩
  ·exact YS r nH q l hl wk n _ (by simp) aR
theorem YR {r:Realm}(hr:Right r){a q:Int}{l:List Int}(hl:l.length≤100000)(h:(gU r a q l).2=0):(gU r a q l).1≠[]∧0≤cW (gU r a q l).1∧cW (gU r a q l).1<r.orders.length:=by
 unfold gU at h ⊢;split at h
 ·rename_i hh;rw[if_pos hh];obtain⟨ha,XT,hx,wk⟩:=M7 hh.1;obtain⟨h1,h2⟩:=YS r hr.by_ q l hl wk r.orders.length [a] (by simp) (fun x hx=>by simp at hx;subst hx;exact ha);refine⟨h1,?_⟩;have ah:(jN r q l r.orders.length [a]).1.length-1<(jN r q l r.orders.length [a]).1.length:=by have:=List.length_pos_iff.mpr h1;omega
  have jJ:cW (jN r q l r.orders.length [a]).1=(jN r q l r.orders.length [a]).1[(jN r q l r.orders.length [a]).1.length-1]:=by simp[cW,ah]
  rw[jJ];exact h2 _ (List.getElem_mem ah)
 ·cases h
theorem YT (r:Realm)(q:Int)(l:List Int):∀(n:Nat) (p:List Int),(jN r q l n p).1.length≤p.length+n
 |0,p=>by simp[jN]
 |n+1,p=>by
  rw[Pe];split
  ·simp
  split
  ·simp
  split
  ·simp
  ·have:=YT r q l n (p++[(fi r (cW p) q l).1]);simp at this;omega
theorem atw (r:Realm)(a q:Int)(l:List Int):(gU r a q l).1.length≤1+r.orders.length:=by
 unfold gU;split
 ·exact YT r q l _ [a]
 ·simp
@[simp] theorem aHX (a b c d e x:D):cM [a,b,c,d,e] 2 [x]=[a,b,x,d,e]:=_root_.id rfl
@[simp] theorem aHY (a b c d e x:D):cM [a,b,c,d,e] 3 [x]=[a,b,c,x,e]:=_root_.id rfl
@[simp] theorem aHZ (a b c d e x:D):cM [a,b,c,d,e] 4 [x]=[a,b,c,d,x]:=_root_.id rfl
def PS:Said:=⟨dK,-1,[],1⟩
def gq (r:Realm)(forum q:Int)(c:Case):Said×List Cell:=
 if gG r (aW c)=[] then(PS,[]) else if(lj q).2=false then(PS,[]) else if gD r forum (aW c)=[] then(PS,[]) else
    (⟨dK,if(gU r forum q (gD r forum (aW c))).2=0 then cW (gU r forum q (gD r forum (aW c))).1 else-1,(gU r forum q (gD r forum (aW c))).1,(gU r forum q (gD r forum (aW c))).2⟩,gG r (aW c))
theorem adA (r:Realm)(forum:Int)(c:Case):(gD r forum c).length≤5:=by
 unfold gD;split
 ·simp
 split<;>simp[ju]
theorem agr (r:Realm)(hr:Right r)(forum q:Int)(c:Case)(hf:FewS c.file):ak T ZM [aZ r,.int forum,.int q,eO c] (.tup [j6 (gq r forum q c).1,cells (gq r forum q c).2]):=by
 refine .of_tree rfl agA ayA ?_;simp[SJ];refine⟨_,agt r c hf,?_⟩;by_cases hv:gG r (aW c)=[]
 ·simp[hv,gq];exact⟨rfl,rfl⟩
 simp[hv,gq];refine⟨_,Qz q,?_⟩;cases hq:(lj q).2
 ·simp[hq];exact⟨rfl,rfl⟩
 simp[hq];refine⟨_,awx r forum (aW c) (aAY hv),?_⟩;by_cases hp:gD r forum (aW c)=[]
 ·simp[hp];exact⟨rfl,rfl⟩
 have eU:=adA r forum (aW c);have aD:ints (gD r forum (aW c))≠.list []:=fun e=>hp (by simpa [ints] using e);simp[hp];generalize gD r forum (aW c)=l at*;refine⟨_,afY r hr.by_ hr.len forum q l (by omega),?_⟩;have hlen:=atw r forum q l;have Bd:=YR hr (a:=forum) (q:=q) (l:=l) (by omega);have Ol:=hr.len;generalize gU r forum q l=L at*;obtain⟨path,err⟩:=L;simp only at*;by_cases he:err=0
 ·obtain⟨h1,h2⟩:=Bd he;have Ov:=List.length_pos_iff.mpr h1;have O1:IntKind.i64.wrap ((path.length:Int)-1)=(path.length:Int)-1:=bD (by omega);have NZ:((path.length:Int)-1).toNat=path.length-1:=by omega
  have ah:path.length-1<path.length:=by omega
  have jJ:cW path=path[path.length-1]:=by simp[cW,ah]
  simp[he,O1,NZ,ah,←jJ];exact⟨by omega,rfl⟩
 ·simp[he];rfl
def lE (r:Realm)(forum q:Int)(c:Case):Said:=
 if(gq r forum q c).1.order=-1 then(gq r forum q c).1
 else⟨(oK (mU r (gq r forum q c).1.order) q (gq r forum q c).2).1,(gq r forum q c).1.order,(gq r forum q c).1.path,(oK (mU r (gq r forum q c).1.order) q (gq r forum q c).2).2⟩
theorem agp {r:Realm}(hr:Right r)(forum q:Int)(c:Case):(gq r forum q c).1.order=-1∨(0≤(gq r forum q c).1.order∧(gq r forum q c).1.order<r.orders.length):=by
 unfold gq;split
 ·exact .inl rfl
 split
 ·exact .inl rfl
 split
 ·exact .inl rfl
 ·have eU:=adA r forum (aW c);have Bd:=YR hr (a:=forum) (q:=q) (l:=gD r forum (aW c)) (by omega);show(if _ then _ else _)=_∨_;split
  ·rename_i h;exact .inr (Bd h).2
  ·exact .inl rfl
theorem Vy (r:Realm)(hr:Right r)(forum q:Int)(c:Case)(hf:FewS c.file):ak T ZH [aZ r,.int forum,.int q,eO c] (j6 (lE r forum q c)):=by
 refine .of_tree rfl agv ayv ?_;simp[SD];refine⟨_,agr r hr forum q c hf,?_⟩;have ho:=agp hr forum q c;unfold lE;generalize gq r forum q c=S at*;obtain⟨s,cs⟩:=S;simp only at*;by_cases h:s.order=-1
 ·obtain⟨⟨kn,n⟩,o,pth,e⟩:=s;simp only at h;subst h;simp;rfl
 ·have h1:0≤s.order∧s.order<r.orders.length:=by omega
  have h2:s.order.toNat<r.orders.length:=by omega
  have h3:mU r s.order=r.orders[s.order.toNat]:=by simp[mU,h2]
  obtain⟨aA,hlen⟩:=hr.ok _ (List.getElem_mem h2);simp[h,h1,h2,h3];refine⟨_,awb _ q cs aA (by omega),?_⟩;simp;rfl
def iv (r:Realm)(forum q:Int)(f:File)(day:Int):Said:=lE r forum q ⟨{f with facts:=[]},0,-1,-1,-1,day⟩
theorem Vz (r:Realm)(hr:Right r)(forum q:Int)(f:File)(day:Int)(hf:FewS f):ak T ZI [aZ r,.int forum,.int q,cD f,.int day] (j6 (iv r forum q f day)):=by
 refine .of_tree rfl agw ayw ?_;simp[SF];refine⟨j6 (iv r forum q f day),Vy r hr forum q ⟨{f with facts:=[]},0,-1,-1,-1,day⟩ ⟨hf.1,hf.2,hf.3,by simp⟩,?_⟩;simp
 try rfl
def ku (s:Said):Int:=if s.err≠0 then 0 else if s.cell.known=false then 2 else if s.cell.n≠0 then 1 else 0
theorem VA (s:Said):ak T ZL [j6 s] (.int (ku s)):=by
 refine .of_tree rfl agz ayz ?_;unfold ku;by_cases h1:s.err=0<;>cases h2:s.cell.known<;>by_cases h3:s.cell.n=0<;>simp[SI,h1,h2,h3]
def py (s:Said):Int:=if s.err≠0∨s.cell.known=false then-1 else s.cell.n
theorem agq (s:Said):ak T ZK [j6 s] (.int (py s)):=by
 refine .of_tree rfl agy ayy ?_;unfold py;by_cases h1:s.err=0<;>cases h2:s.cell.known<;>simp[SH,h1,h2]
end Rm
namespace Rm
open Go Go.Proofs Cx
end Rm
namespace Rm
open Go Go.Proofs Cx
theorem wW (r:Realm)(c:Int):ak T abh [aZ r,.int c] (.bool (aw c r.cities.length)):=by
 refine .of_tree rfl ail aAm ?_;by_cases h1:0≤c<;>by_cases h2:c<r.cities.length<;>simp[Uy,h1,h2,aw]
def cI (n:Int):Bool:=decide (0≤n)&&decide (n≤100000)
theorem rW (n:Int):ak T Hi [.int n] (.bool (cI n)):=by
 refine .of_tree rfl aim aAn ?_;by_cases h1:0≤n<;>by_cases h2:n≤100000<;>simp[Uz,h1,h2,cI]
theorem yq (n:Int):ak T ZY [.int n] (.bool (cI n)):=by
 refine .of_tree rfl agJ ayM ?_;by_cases h1:0≤n<;>by_cases h2:n≤100000<;>simp[SU,h1,h2,cI]
def sI (t:Tenor):Bool:=decide (t.kind=0)||decide (t.kind=1)
theorem yB (t:Tenor):ak T abg [mz t] (.bool (sI t)):=by
 refine .of_tree rfl aik aAl ?_;by_cases h1:t.kind=0<;>simp[Ux,h1,sI]
theorem abG (y m d:Int):∃n:Int,ak T Pw [.int y,.int m,.int d] (.int n):=by
 by_cases h:m<3
 ·refine⟨?w,?h⟩
  case h=>
   refine ak.of_tree (d:=.int ?w) rfl VF afo ?_;simp[Lt,h];exact rfl
 ·refine⟨?v,?g⟩
  case g=>
   refine ak.of_tree (d:=.int ?v) rfl VF afo ?_;simp[Lt,h];exact rfl
noncomputable def BV (y m d:Int):Int:=(abG y m d).choose
theorem Hq (y m d:Int):ak T Pw [.int y,.int m,.int d] (.int (BV y m d)):=(abG y m d).choose_spec
noncomputable def w6 (y m:Int):Int:=if m=12 then 31 else IntKind.i64.wrap (BV y (IntKind.i64.wrap (m+1)) 1-BV y m 1)
theorem G3 (y m:Int):ak T ZW [.int y,.int m] (.int (w6 y m)):=by
 refine .of_tree rfl agH ayK ?_;unfold w6;by_cases h:m=12
 ·simp[Ls,h]
 ·simp[Ls,h];refine⟨_,Hq _ _ _,_,Hq _ _ _,?_⟩;simp
theorem afO (y m d:Int):∃n e:Int,ak T ZQ [.int y,.int m,.int d] (.tup [.int n,.int e])∧(e=0→0≤n∧n≤100000):=by
 by_cases h0:(((2000≤y∧y≤2300)∧1≤m)∧m≤12)∧1≤d
 ·by_cases h2:d≤w6 y m
  ·cases h1:cI (BV y m d)
   ·refine⟨0,3,.of_tree rfl D1 Lr ?_,by simp⟩;simp[yn];rw[if_pos h0];refine⟨_,G3 y m,?_⟩;simp[h0,h2];refine⟨_,Hq _ _ _,_,yq _,?_⟩;simp[h1]
   ·refine⟨BV y m d,0,.of_tree rfl D1 Lr ?_,fun _=>by simpa [cI] using h1⟩;simp[yn];rw[if_pos h0];exact⟨_,G3 y m,⟨h0,h2⟩,_,Hq _ _ _,_,yq _,h1,rfl⟩
  ·refine⟨0,3,.of_tree rfl D1 Lr ?_,by simp⟩;simp[yn];rw[if_pos h0];refine⟨_,G3 y m,?_⟩;simp[h0,h2]
 ·refine⟨0,3,.of_tree rfl D1 Lr ?_,by simp⟩;simp[yn];rw[if_neg h0];intro a1 a2 a3 a4 a5;exact absurd ⟨⟨⟨⟨a1,a2⟩,a3⟩,a4⟩,a5⟩ h0
theorem Vm (r:Realm)(fr to:Int)(hl:r.usances.length≤100000):∃n e:Int,ak T Hh [aZ r,.int fr,.int to] (.tup [.int n,.int e])∧(e=0→∃u,u∈r.usances∧n=u.days)∧(e=0↔∃u,u∈r.usances∧u.fr=fr∧u.to=to):=by
 let p:Usance→Bool:=fun u=>decide (u.fr=fr)&&decide (u.to=to)
 refine⟨match r.usances.find? p with|some u=>u.days|none=>0,match r.usances.find? p with|some u=>0|none=>4,?_,?_⟩
 ·refine .of_tree rfl VI afq ?_;simp[Ly];refine aO.scan r.usances.length (fun k=>p (r.usances.getD k default)=false) (fun k=>[.int 0,.int 0,.int k]) (fun _=>[]) ?_ (fun k hk hj aA=>?_) (fun k hk hj aA=>?_) (fun hj=>?_)
  ·simp
  ·have hw:=bl hk (by omega);have hn:¬(r.usances[k].fr=fr∧r.usances[k].to=to):=by simpa [p,hk] using aA
   simp[xV,sy,hk,hw,hn]
  ·have gy:=tD hk (by simpa [hk] using aA) (fun j bB=>by have:=hj j bB;simpa [show j<r.usances.length by omega] using this);have hc:r.usances[k].fr=fr∧r.usances[k].to=to:=by simpa [p,hk] using aA
   rw[gy];simp[xV,sy,hk,hc]
  ·have gy:=v3 (l:=r.usances) (p:=p) (fun j bB=>by have:=hj j bB;simpa [bB] using this);rw[gy];simp[xV,sy]
 ·cases h:r.usances.find? p with
  |none=>
   refine⟨fun h=>(by cases h),fun h=>(by cases h),fun⟨u,hu,h1,h2⟩=>?_⟩;have:=List.find?_eq_none.1 h u hu;simp[p,h1,h2] at this
  |some u=>
   have h2:u.fr=fr∧u.to=to:=by simpa [p] using List.find?_some h
   exact⟨fun _=>⟨u,List.mem_of_find?_eq_some h,rfl⟩,fun _=>⟨u,List.mem_of_find?_eq_some h,h2⟩,fun _=>rfl⟩
theorem af6 (r:Realm)(fr to:Int)(hl:r.usances.length≤100000):∃n e:Int,ak T Hh [aZ r,.int fr,.int to] (.tup [.int n,.int e])∧(e=0→∃u,u∈r.usances∧n=u.days):=by
 obtain⟨n,e,h1,h2,_⟩:=Vm r fr to hl;exact⟨n,e,h1,h2⟩
end Rm
namespace Rm
open Go Go.Proofs Cx
theorem V7 (R Y:Int)(hR:0≤R∧R<146097)(h1:365*Y≤R-R/1460+R/36524-R/146096)(h2:R-R/1460+R/36524-R/146096<365*Y+365):0≤R-(365*Y+Y/4-Y/100)∧R-(365*Y+Y/4-Y/100)≤500:=by
 have k0:R/36524≤R/1460:=by omega
 have k1:Y/4≤R/1460:=by omega
 have hY:0≤Y:=by omega
 have hc:R/36524=0∨R/36524=1∨R/36524=2∨R/36524=3∨R/36524=4:=by omega
 have k2:25*(R/36524)≤R/1460:=by omega
 refine⟨?_,?_⟩
 ·rcases Int.lt_or_le Y (100*(R/36524)) with hy|hy
  ·have k3:Y/4≤25*(R/36524)-1:=by omega
   have k4:R/36524-1≤Y/100:=by omega
   omega
  ·have k3:R/36524≤Y/100:=by omega
   omega
 ·omega
theorem V8 (n:Int)(h:0≤n∧n≤100400):ak T ZT [.int n] (.tup [.int (eC n).1,.int (eC n).2.1,.int (eC n).2.2]):=by
 refine .of_tree rfl agF ayH ?_;have w:∀x:Int,-1000000000≤x→x≤1000000000→IntKind.i64.wrap x=x:=fun x a b=>bD (by omega);have t:∀x y:Int,0≤x→x.tdiv y=x/y:=fun x y hx=>Int.tdiv_eq_ediv_of_nonneg hx;have u:∀x y:Int,0≤x→x.tmod y=x%y:=fun x y hx=>Int.tmod_eq_emod_of_nonneg hx;simp[SP];unfold eC;simp only[];rw[w (n+730425) (by omega) (by omega),u (n+730425) 146097 (by omega),t (n+730425) 146097 (by omega)];have hR:0≤(n+730425)%146097∧(n+730425)%146097<146097:=by omega
 have hE:0≤(n+730425)/146097∧(n+730425)/146097<100:=by omega
 generalize (n+730425)%146097=R at*;generalize (n+730425)/146097=e at*;rw[t R 1460 (by omega),t R 36524 (by omega),t R 146096 (by omega),w (R/1460) (by omega) (by omega),w (R-R/1460) (by omega) (by omega),w (R/36524) (by omega) (by omega),w (R-R/1460+R/36524) (by omega) (by omega),w (R/146096) (by omega) (by omega),w (R-R/1460+R/36524-R/146096) (by omega) (by omega),t (R-R/1460+R/36524-R/146096) 365 (by omega)];have hY:0≤(R-R/1460+R/36524-R/146096)/365∧(R-R/1460+R/36524-R/146096)/365<400:=by omega
 have hD:0≤R-(365*((R-R/1460+R/36524-R/146096)/365)+(R-R/1460+R/36524-R/146096)/365/4-(R-R/1460+R/36524-R/146096)/365/100)∧R-(365*((R-R/1460+R/36524-R/146096)/365)+(R-R/1460+R/36524-R/146096)/365/4-(R-R/1460+R/36524-R/146096)/365/100)≤500:=by
  exact V7 R _ hR (by omega) (by omega)
 generalize (R-R/1460+R/36524-R/146096)/365=Y at*;rw[w Y (by omega) (by omega),w (365*Y) (by omega) (by omega),t Y 4 (by omega),t Y 100 (by omega),w (Y/4) (by omega) (by omega),w (Y/100) (by omega) (by omega),w (365*Y+Y/4) (by omega) (by omega),w (365*Y+Y/4-Y/100) (by omega) (by omega),w (R-(365*Y+Y/4-Y/100)) (by omega) (by omega)];generalize R-(365*Y+Y/4-Y/100)=D at*;rw[w (5*D) (by omega) (by omega),w (5*D+2) (by omega) (by omega),t (5*D+2) 153 (by omega)];have hM:0≤(5*D+2)/153∧(5*D+2)/153≤20:=by omega
 generalize (5*D+2)/153=M at*;rw[w M (by omega) (by omega),w (M+3) (by omega) (by omega),w (M+3-12) (by omega) (by omega),w e (by omega) (by omega),w (400*e) (by omega) (by omega),w (Y+400*e) (by omega) (by omega),w (Y+400*e+1) (by omega) (by omega)];rw[w (153*M) (by omega) (by omega),w (153*M+2) (by omega) (by omega),t (153*M+2) 5 (by omega),w ((153*M+2)/5) (by omega) (by omega),w (D-(153*M+2)/5) (by omega) (by omega),w (D-(153*M+2)/5+1) (by omega) (by omega)];refine⟨?_,?_,rfl⟩
 ·generalize (if 12<M+3 then M+3-12 else M+3)=m;split<;>rfl
 ·split<;>rfl
theorem afJ (d n:Int):∃x e:Int,ak T ZP [.int d,.int n] (.tup [.int x,.int e])∧(e=0→0≤x∧x≤100000):=by
 by_cases h0:cI d=true∧-5000≤n∧n≤5000
 ·have hd:0≤d∧d≤100400:=by have:=h0.1;simp[cI] at this;omega
  obtain⟨A,hA⟩:∃A,A=IntKind.i64.wrap (IntKind.i64.wrap (IntKind.i64.wrap (IntKind.i64.wrap (12*(eC d).1)+(eC d).2.1)-1)+n):=⟨_,rfl⟩
  obtain⟨Y,hY⟩:∃Y,Y=IntKind.i64.wrap (A.tdiv 12):=⟨_,rfl⟩
  obtain⟨M,hM⟩:∃M,M=IntKind.i64.wrap (A.tmod 12+1):=⟨_,rfl⟩
  obtain⟨x,e,hD,hb⟩:=afO Y M (if w6 Y M<(eC d).2.2 then w6 Y M else(eC d).2.2);refine⟨x,e,.of_tree rfl VE afn ?_,hb⟩;have n1:¬n< -5000:=by omega
  have n2:¬5000<n:=by omega
  simp[Lq,n1,n2];refine⟨_,yq d,?_⟩;simp[h0.1];refine⟨_,V8 d hd,?_⟩;simp[←hA,←hY,←hM];refine⟨_,G3 Y M,?_⟩;by_cases hl:w6 Y M<(eC d).2.2
  ·simp only[if_pos hl] at hD;simp[hl];refine⟨_,hD,?_⟩;simp
  ·simp only[if_neg hl] at hD;simp[hl];refine⟨_,hD,?_⟩;simp
 ·refine⟨0,3,.of_tree rfl VE afn ?_,by simp⟩;simp[Lq];refine⟨_,yq d,?_⟩;simp;intro a b c;exact absurd ⟨a,b,c⟩ h0
end Rm
namespace Rm
open Go Go.Proofs Cx
theorem Nz (l:List Int)(x:Int):hasB l x=l.contains x:=by
 rw[Bool.eq_iff_iff];simp[hasB]
def sJ (c:City):Prop:=c.rest.length≤100000∧c.feasts.length≤100000∧c.shut.length≤100000
theorem alM (n:Int)(h:0≤n∧n≤100400):(0≤(eC n).2.1∧(eC n).2.1≤30)∧-1000≤(eC n).2.2∧(eC n).2.2≤1000:=by
 unfold eC;simp only[];have hR:0≤(n+730425)%146097∧(n+730425)%146097<146097:=by omega
 generalize (n+730425)%146097=R at*;have hD:=V7 R ((R-R/1460+R/36524-R/146096)/365) hR (by omega) (by omega);generalize (R-R/1460+R/36524-R/146096)/365=Y at*;generalize R-(365*Y+Y/4-Y/100)=D at*;have hM:0≤(5*D+2)/153∧(5*D+2)/153≤20:=by omega
 generalize (5*D+2)/153=M at*;refine⟨?_,by omega,by omega⟩;split<;>omega
theorem av9 (c:City)(hc:sJ c)(n:Int)(h:0≤n∧n≤100400):ak T ZX [fe c,.int n] (.bool (uK c.rest c.feasts c.shut n)):=by
 refine .of_tree rfl agI ayL ?_;simp[SS];refine⟨_,V8 n h,?_⟩;have w5:IntKind.i64.wrap (n+5)=n+5:=bD (by omega);have m7:(n+5).tmod 7=(n+5)%7:=Int.tmod_eq_emod_of_nonneg (by omega);obtain⟨h1,h2,h3⟩:=hc;simp[w5,m7];refine⟨_,pW c.rest ((n+5)%7) (by omega),?_⟩;unfold uK;rw[←Nz];cases hr:hasB c.rest ((n+5)%7)
 ·obtain⟨iI,dh⟩:=alM n h;have wm:IntKind.i64.wrap (100*(eC n).2.1)=100*(eC n).2.1:=bD (by omega);have wd:IntKind.i64.wrap (100*(eC n).2.1+(eC n).2.2)=100*(eC n).2.1+(eC n).2.2:=bD (by omega);simp[hr,wm,wd];refine⟨_,pW c.feasts _ (by omega),?_⟩;have e1:=Nz c.feasts (100*(eC n).2.1+(eC n).2.2);have e2:=Nz c.shut n;simp at e1 e2;cases hf:hasB c.feasts (100*(eC n).2.1+(eC n).2.2)
  ·simp[hf,←e1,←e2];exact⟨_,pW c.shut n (by omega),rfl⟩
  ·simp[hf,←e1]
 ·simp[hr]
end Rm
namespace Rm
open Go Go.Proofs Cx
def eh (c:City)(a:Int)(k:Nat):List Int:=((List.range k).map fun(i:Nat)=>a+i).filter (uK c.rest c.feasts c.shut)
theorem Wf (c:City)(a:Int)(k:Nat):eh c a (k+1)=eh c a k++if uK c.rest c.feasts c.shut (a+k) then[a+k] else[]:=by
 unfold eh;rw[List.range_succ,List.map_append,List.filter_append]
 congr 1
 cases h:uK c.rest c.feasts c.shut (a+k)<;>simp[h]
theorem al5 (c:City)(a:Int){k n:Nat}(h:k≤n):∃r,eh c a n=eh c a k++r:=by
 induction n with
 |zero=>obtain rfl:k=0:=by omega
        exact⟨[],by simp⟩
 |succ n ih=>
  by_cases e:k=n+1
  ·subst e;exact⟨[],by simp⟩
  ·obtain⟨r,hr⟩:=ih (by omega);exact⟨r++_,by rw[Wf,hr,List.append_assoc]⟩
def oR (d:Int):D:=.tup [.int d]
theorem al6 (c:City)(a b:Int):Wh [.ref (.int a),.ref (.int b),.ref (fe c)]=(eh c a (b-a+1).toNat).map oR:=by
 have hi:∀l:List Int,uu (ints l)=l:=fun l=>by
  show(l.map D.int).map D.i=l;rw[List.map_map];exact List.map_id l
 show(Wg (uu (ints c.rest)) (uu (ints c.feasts)) (uu (ints c.shut)) a b).map _=_;rw[hi,hi,hi];rfl
theorem al3 (c:City)(hc:sJ c)(a b:Int)(ha:0≤a)(hb:b≤100400)(wj:a≤100400):ak T ZV [.ref (.int a),.ref (.int b),.ref (fe c)] (.list ((eh c a (b-a+1).toNat).map oR)):=by
 have rR:=al6 c a b;rw[←rR];obtain⟨N,hN⟩:∃N,N=(b-a+1).toNat:=⟨_,rfl⟩
 refine ak.of_it (pc:=B6) (J:=1000) (k:=1) rfl (fun x hx=>?_) (fun m hm=>?_)
 ·rw[rR] at hx;obtain⟨i,_,rfl⟩:=List.mem_map.1 hx;exact⟨_,rfl,rfl⟩
 ·rw[rR] at hm ⊢;rw[←hN] at hm ⊢;refine LB ?_;rw[ayI];simp[SR];refine aO.forLoop (α:=Nat) (fun k vr vo=>k≤N∧vr=[.int (a+k)]∧vo=[.list ((eh c a k).map oR)]∧(eh c a k).length≤m) (fun k=>N-k) 0 ?_ ?_
  ·simp[anf,eh]
  ·rintro k vr vo ⟨hk,rfl,rfl,lK⟩;by_cases ah:k<N
   ·have hle:a+(k:Int)≤b:=by omega
    have gS:IntKind.i64.wrap (a+(k:Int)+1)=a+((k+1:Nat):Int):=by rw[bD (by omega)];omega
    have bG:=(av9 c hc (a+k) (by omega))
    have wO:=Wf c a k;obtain⟨r,hr⟩:=al5 c a (k:=k+1) (n:=N) ah;simp[aej,KD,hle];refine⟨_,bG.yld (by decide),?_⟩;cases hi:uK c.rest c.feasts c.shut (a+k)
    ·simp[hi] at wO ⊢;exact⟨k+1,by omega,by omega,gS,by rw[wO],by rw[wO];exact lK⟩
    ·simp[hi] at wO ⊢;have hlen:(eh c a (k+1)).length=(eh c a k).length+1:=by rw[wO];simp
     have qx:(eh c a k).map oR++[D.tup [D.int (a+k)]]=(eh c a (k+1)).map oR:=by rw[wO,List.map_append];rfl
     have By:(eh c a (k+1)).map oR=((eh c a N).map oR).take ((eh c a k).length+1):=by
      rw[hr,List.map_append,List.take_append_of_le_length (by simp[hlen]),List.take_of_length_le (by simp[hlen])]
     have bf:(eh c a k).length<((eh c a N).map oR).length:=by rw[hr];simp[hlen];omega
     rw[qx];refine⟨_,ak.answer By bf lK,?_⟩;by_cases tZ:(eh c a k).length<m
     ·simp[tZ];exact⟨k+1,by omega,by omega,gS,rfl,by omega⟩
     ·obtain rfl:(eh c a k).length=m:=by omega
      simp;rw[By]
   ·obtain rfl:k=N:=by omega
    have hle:¬a+(k:Int)≤b:=by omega
    simp[aej,KD,hle];rw[List.take_of_length_le (by simp;omega)]
end Rm
namespace Rm
open Go Go.Proofs Cx
theorem al7 (c:City)(a b:Int):ak T ZU [fe c,.int a,.int b] (.clo ZV [.ref (.int a),.ref (.int b),.ref (fe c)]):=by
 refine .of_tree rfl agG ayJ ?_;simp[SQ]
def lG (d:Int):Int:=if 100000<d+400 then 100000 else d+400
def eJ (c:City)(d:Int):Int×Int:=
 if cI d=false then(0,3) else match eh c d (lG d-d+1).toNat with|[]=>(0,3)|x::_=>(x,0)
theorem al4 {c:City}{a:Int}{k:Nat}{x:Int}(h:x∈eh c a k):a≤x∧x<a+k:=by
 unfold eh at h;obtain⟨h1,_⟩:=List.mem_filter.mp h;obtain⟨i,hi,rfl⟩:=List.mem_map.mp h1;have:=List.mem_range.mp hi;omega
theorem Hl {c:City}{d:Int}(h:(eJ c d).2=0):cI d=true∧d≤(eJ c d).1∧(eJ c d).1≤100000:=by
 unfold eJ at h ⊢;cases hd:cI d
 ·simp[hd] at h
 ·simp only[hd] at h ⊢;cases hk:eh c d (lG d-d+1).toNat with
  |nil=>rw[hk] at h;simp at h
  |cons x l=>
   have hm:x∈eh c d (lG d-d+1).toNat:=by rw[hk];simp
   have:=al4 hm;have he:lG d≤100000:=by unfold lG;split<;>omega
   simp[cI] at hd;simp;unfold lG at*;omega
theorem Vk (c:City)(hc:sJ c)(d:Int):ak T ZR [fe c,.int d] (.tup [.int (eJ c d).1,.int (eJ c d).2]):=by
 refine .of_tree rfl agD ayF ?_;simp[SN];refine⟨_,yq d,?_⟩;cases hd:cI d
 ·simp[eJ,hd]
 have cT:0≤d∧d≤100000:=by simpa [cI] using hd
 have hw:IntKind.i64.wrap (d+400)=d+400:=bD (by omega);have he:lG d≤100000:=by unfold lG;split<;>omega
 simp[hd,hw];have hE:(if 100000<d+400 then D.int 100000 else D.int (d+400))=D.int (lG d):=by unfold lG;split<;>rfl
 rw[hE];refine⟨_,al7 c d (lG d),_,_,rfl,_,al3 c hc d (lG d) cT.1 (by omega) (by omega),?_⟩;cases hk:eh c d (lG d-d+1).toNat with
 |nil=>
  have hn:eJ c d=(0,3):=by unfold eJ;simp[hd,hk]
  rw[hn];refine aO.eachR [] (by simp) (fun _ vo=>vo=[.agg [.int 0],.agg [.int 0]]) ?_ (fun k x vo hx hi=>by simp at hx) (fun vo hi=>?_)
  ·simp
  ·subst hi;simp
 |cons x l=>
  have hn:eJ c d=(x,0):=by unfold eJ;simp[hd,hk]
  rw[hn];refine aO.eachR ((x::l).map oR) (by simp) (fun k vo=>k=0∧vo=[.agg [.int 0],.agg [.int 0]]) ?_ (fun k y vo hx hi=>?_) (fun vo hi=>?_)
  ·simp
  ·obtain⟨rfl,rfl⟩:=hi;simp at hx;subst hx;simp[axh,Re,oR];rfl
  ·exact absurd hi.1 (by simp)
end Rm
namespace Rm
open Go Go.Proofs Cx
def Lf (o:Int)(d:Int)(h:Halt):Int:=if(h.order=o∧h.fr≤d)∧d≤h.to then h.to+1 else d
def lf (r:Realm)(o d:Int)(k:Nat):Int:=(r.halts.take k).foldl (Lf o) d
theorem afd (r:Realm)(o d:Int){k:Nat}(hk:k<r.halts.length):lf r o d (k+1)=Lf o (lf r o d k) r.halts[k]:=by
 unfold lf;rw[List.take_succ_eq_append_getElem hk,List.foldl_append];rfl
def sV (r:Realm):Prop:=r.halts.length≤100000∧∀h,h∈r.halts→0≤h.fr∧h.to≤100000
theorem Sq {r:Realm}(hh:sV r)(o d:Int)(hd:d≤100001):∀k,k≤r.halts.length→d≤lf r o d k∧lf r o d k≤100001
 |0,_=>⟨by simp[lf],by simpa [lf] using hd⟩
 |k+1,hk=>by
  obtain⟨h1,h2⟩:=Sq hh o d hd k (by omega);rw[afd r o d (by omega)];have:=hh.2 _ (List.getElem_mem (show k<r.halts.length by omega));unfold Lf;split<;>omega
def vp (r:Realm)(o:Int):Nat→Int→Int
 |0,d=>d
 |n+1,d=>if lf r o d r.halts.length=d then d else vp r o n (lf r o d r.halts.length)
def ib (r:Realm)(o d:Int):Int:=vp r o (100002-d).toNat d
theorem Sr {r:Realm}(hh:sV r)(o:Int):∀(n:Nat) (d:Int),d≤100001→d≤vp r o n d∧vp r o n d≤100001
 |0,d,hd=>⟨Int.le_refl _,hd⟩
 |n+1,d,hd=>by
  obtain⟨h1,h2⟩:=Sq hh o d hd r.halts.length (Nat.le_refl _);unfold vp;split
  ·omega
  ·have:=Sr hh o n _ h2;omega
theorem ax8 (r:Realm)(hh:sV r)(o d:Int)(h0:0≤d)(hd:d≤100001):ak T abi [aZ r,.int o,.int d] (.int (ib r o d)):=by
 refine .of_tree rfl aio aAp ?_;simp[UB];refine aO.forLoop (α:=Int×Bool×Nat) (fun s vr vo=>vr=[.int s.1,.bool s.2.1]∧vo=[]∧d≤s.1∧s.1≤100001∧(s.2.1=true→(100002-s.1).toNat≤s.2.2)∧(s.2.1=true→vp r o s.2.2 s.1=ib r o d)∧(s.2.1=false→s.1=ib r o d)) (fun s=>2*(100001-s.1).toNat+(if s.2.1 then 1 else 0)) (d,true,(100002-d).toNat) ?_ ?_
 ·simp;exact⟨by omega,rfl⟩
 ·rintro⟨e,ch,n⟩ vr vo ⟨rfl,rfl,h1,h2,h3,h4,h5⟩;simp only at*;cases ch
  ·simp[aex,KW];exact h5 rfl
  ·have h3:=h3 rfl;have h4:=h4 rfl;obtain⟨n,rfl⟩:∃m,n=m+1:=⟨n-1,by omega⟩
   have bA:=Sq hh o e h2;simp[aex,KW];refine aO.forRounds r.halts.length (fun k=>[.int (lf r o e k),.bool (decide (e<lf r o e k)),.int k]) (fun _=>[]) ?_ (fun k hk=>?_) ?_
   ·simp[lf]
   ·have hw:=bl hk (by have:=hh.1;omega);have cq:=bA k (by omega);have uh:=hh.2 _ (List.getElem_mem hk);rw[afd r o e hk];unfold Lf;generalize lf r o e k=x at*;by_cases hc:(r.halts[k].order=o∧r.halts[k].fr≤x)∧x≤r.halts[k].to
    ·have cV:IntKind.i64.wrap (r.halts[k].to+1)=r.halts[k].to+1:=bD (by omega);simp[KV,xY,hk,hw,hc,cV];omega
    ·simp[KV,xY,hk,hw,hc]
   ·have hE:=bA r.halts.length (Nat.le_refl _);unfold vp at h4;generalize lf r o e r.halts.length=x at*;by_cases hx:x=e
    ·rw[if_pos hx] at h4;subst hx;simp[KV,xY];exact⟨x,by omega,rfl,h1,h2,h4⟩
    ·rw[if_neg hx] at h4;have ah:e<x:=by omega
     simp[KV,xY,ah];exact⟨x,by omega,rfl,by omega,by omega,n,by omega,h4⟩
def pK (r:Realm)(c:City)(o:Int):Nat→Int→Int×Int
 |0,d=>(d,0)
 |n+1,d=>
  if(eJ c (ib r o d)).2≠0 then(0,3)
  else if(eJ c (ib r o d)).1=ib r o d then(ib r o d,0)
  else pK r c o n (eJ c (ib r o d)).1
theorem ae7 (r:Realm)(c:City)(o:Int)(n:Nat)(d:Int):pK r c o (n+1) d=
 if(eJ c (ib r o d)).2≠0 then(0,3)
 else if(eJ c (ib r o d)).1=ib r o d then(ib r o d,0)
 else pK r c o n (eJ c (ib r o d)).1:=rfl
def lb (r:Realm)(city d:Int):Int×Int:=pK r (r.cities.getD city.toNat default) (fj r city) (100002-d).toNat d
theorem Sl (r:Realm)(hh:sV r)(city d:Int)(hc:0≤city∧city<r.cities.length)(hs:∀c,c∈r.cities→sJ c)(h0:0≤d)(hd:d≤100001):ak T Hj [aZ r,.int city,.int d] (.tup [.int (lb r city d).1,.int (lb r city d).2]):=by
 refine .of_tree rfl ain aAo ?_;simp[UA];refine⟨_,ou r city,?_⟩;have bf:city.toNat<r.cities.length:=by omega
 have hcg:r.cities.getD city.toNat default=r.cities[city.toNat]:=by simp[bf]
 have hsc:=hs _ (List.getElem_mem bf);have hF:lb r city d=pK r r.cities[city.toNat] (fj r city) (100002-d).toNat d:=by unfold lb;rw[hcg]
 rw[hF];refine aO.forLoop (α:=Int×Nat) (fun s vr vo=>(∃a b,vr=[.int s.1,a,b])∧vo=[]∧0≤s.1∧s.1≤100001∧(100002-s.1).toNat≤s.2∧pK r r.cities[city.toNat] (fj r city) s.2 s.1=pK r r.cities[city.toNat] (fj r city) (100002-d).toNat d) (fun s=>s.2) (d,(100002-d).toNat) ?_ ?_
 ·simp;omega
 ·rintro⟨e,n⟩ vr vo ⟨⟨a,b,rfl⟩,rfl,h1,h2,h3,h4⟩;simp only at*;obtain⟨n,rfl⟩:∃m,n=m+1:=⟨n-1,by omega⟩
  rw[←h4];have OI:=Sr hh (fj r city) (100002-e).toNat e h2;have hsr:=ax8 r hh (fj r city) e h1 h2;rw[ae7];change e≤ib r (fj r city) e∧ib r (fj r city) e≤100001 at OI;generalize ib r (fj r city) e=x at*;have Of:=Vk r.cities[city.toNat] hsc x;have mK:=Hl (c:=r.cities[city.toNat]) (d:=x);generalize eJ r.cities[city.toNat] x=N at*;obtain⟨y,er⟩:=N;simp only at Of mK;simp[axm,R0];refine⟨_,hsr,?_⟩;simp[bf,hc];refine⟨_,Of,?_⟩;by_cases he:er=0
  ·obtain⟨g1,g2,g3⟩:=mK he;by_cases hy:y=x
   ·simp[he,hy]
   ·simp[he,hy];exact⟨y,n,by omega,rfl,by omega,by omega,by omega,rfl⟩
  ·simp[he]
end Rm
namespace Rm
open Go Go.Proofs Cx
structure RightD (r:Realm):Prop where
 small:Small r
 halts:sV r
theorem RightD.cities {r:Realm}(h:RightD r)(c:City)(hc:c∈r.cities):sJ c:=by
 obtain⟨h1,h2,h3,_⟩:=h.small.city c hc;exact⟨by omega,by omega,by omega⟩
theorem yK (d:Int)(t:Tenor):∃n e:Int,ak T PO [.int d,mz t] (.tup [.int n,.int e]):=by
 by_cases h0:t.n<0
 ·refine⟨0,3,.of_tree rfl D2 Lz ?_⟩;simp[yo,h0]
 by_cases h1:20000<t.n
 ·refine⟨0,3,.of_tree rfl D2 Lz ?_⟩;simp[yo,h0,h1]
 by_cases h2:t.unit=1
 ·obtain⟨n,e,h,_⟩:=afJ d t.n;refine⟨n,e,.of_tree rfl D2 Lz ?_⟩;simp[yo,h0,h1,h2];refine⟨_,h,?_⟩;simp
 ·refine⟨IntKind.i64.wrap (d+t.n),0,.of_tree rfl D2 Lz ?_⟩;simp[yo,h0,h1,h2]
theorem aiS (r:Realm)(hr:RightD r)(b:Bill)(seen:Int):∃n e:Int,ak T xc [aZ r,dg b,.int seen] (.tup [.int n,.int e]):=by
 have OR:D.agg [D.int b.tenor.kind,D.int b.tenor.n,D.int b.tenor.unit]=mz b.tenor:=rfl;by_cases h0:b.tenor.kind=0
 ·refine⟨seen,0,.of_tree rfl th vq ?_⟩;simp[mj,h0]
 by_cases h1:b.tenor.kind=1
 ·obtain⟨n,e,h⟩:=yK seen b.tenor;refine⟨n,e,.of_tree rfl th vq ?_⟩;have cg:(b.tenor.kind=1)=True:=eq_true h1;simp[mj,h0,cg];refine⟨_,h,?_⟩;simp
 by_cases h2:b.tenor.kind=2
 ·obtain⟨n,e,h⟩:=yK b.day b.tenor;refine⟨n,e,.of_tree rfl th vq ?_⟩;have jc:(b.tenor.kind=2)=True:=eq_true h2;simp[mj,h0,h1,jc];refine⟨_,h,?_⟩;simp
 by_cases h4:b.tenor.kind=4
 ·obtain⟨n,e,h,_⟩:=af6 r b.city b.pay (by have:=hr.small.us;omega);refine⟨IntKind.i64.wrap (b.day+n),e,.of_tree rfl th vq ?_⟩;have lJ:(b.tenor.kind=4)=True:=eq_true h4;simp[mj,h0,h1,h2,lJ];refine⟨_,h,?_⟩;simp
 ·refine⟨b.tenor.n,0,.of_tree rfl th vq ?_⟩;simp[mj,h0,h1,h2,h4]
theorem ak.ex_of_tree {tab:Nat→Option PC}{ext:Nat→Option (aT→List D→Option D)}{f:Nat}{pc:PC}{t:PT}{ds:List D}{P:D→Prop}(hx:ext f=none)(ht:tab f=some pc)(he:tree pc=t)
 (h:aJ (cN tab ext) t (j7 ds) (fun x=>∃d,x=.ret d∧P d)):∃d,ak (cN tab ext) f ds d∧P d:=by
 subst he;obtain⟨x,⟨d,rfl,hd⟩,n0,hn⟩:=afu (Kf ⟨fun _ _ _ h=>(by obtain⟨_,h,_⟩:=h;cases h),fun _ _ _ _ _ _ h=>(by obtain⟨_,h,_⟩:=h;cases h),fun _ h=>h⟩ h);exact⟨d,.of_pc hx ht ⟨.ret d,rfl,n0,hn⟩,hd⟩
def DS (d:D):Prop:=∃n e:Int,d=.tup [.int n,.int e]
@[simp] theorem aDI (n e:Int):DS (.tup [.int n,.int e])=True:=eq_true ⟨n,e,rfl⟩
theorem vB (r:Realm)(hr:RightD r)(b:Bill)(seen bL:Int):∃d,ak T BT [aZ r,dg b,.int seen,.int bL] d∧DS d:=by
 have OR:D.agg [D.int b.tenor.kind,D.int b.tenor.n,D.int b.tenor.unit]=mz b.tenor:=rfl;have jE:=KY r hr.small;refine ak.ex_of_tree rfl LV Uw ?_;simp[DE];refine⟨_,jE,?_⟩;by_cases h0:gJ r=0
 case neg=>simp[h0]
 simp[h0];refine⟨_,wW r b.city,?_⟩;cases h1:aw b.city r.cities.length
 ·simp[h1]
 simp[h1];refine⟨_,wW r b.pay,?_⟩;cases h2:aw b.pay r.cities.length
 ·simp[h2]
 simp[h2];refine⟨_,rW b.day,?_⟩;cases h3:cI b.day
 ·simp[h3]
 simp[h3];intro _ _ _ _;have hp:0≤b.pay∧b.pay<r.cities.length:=by simpa [aw] using h2
 have fin:0≤bL→bL≤20000→∃d,ak T xc [aZ r,dg b,D.int seen] d∧
  if(d.tget 1).i=0 then ∃d1,ak T Hi [d.tget 0] d1∧(d1.b=true→IntKind.i64.wrap ((d.tget 0).i+bL)≤100000→
        ∃d2,ak T Hj [aZ r,D.int b.pay,D.int (IntKind.i64.wrap ((d.tget 0).i+bL))] d2∧DS (D.tup [d2.tget 0,d2.tget 1]))
  else DS (D.tup [D.int 0,d.tget 1]):=by
  intro tT lN;obtain⟨n,e,h⟩:=aiS r hr b seen;refine⟨_,h,?_⟩;by_cases he:e=0
  ·simp[he];refine⟨_,rW n,?_⟩;cases hd:cI n
   ·simp[hd]
   have cT:0≤n∧n≤100000:=by simpa [cI] using hd
   have hw:IntKind.i64.wrap (n+bL)=n+bL:=bD (by omega);simp[hd,hw];intro hle;refine⟨_,Sl r hr.halts b.pay (n+bL) hp hr.cities (by omega) (by omega),?_⟩;simp
  ·simp[he]
 by_cases hs:seen=-1
 ·simp[hs] at fin ⊢;intro tT lN;refine⟨_,yB b.tenor,?_⟩;simp;intro _;exact fin tT lN
 ·simp[hs] at fin ⊢;refine⟨_,rW seen,?_⟩;cases hk:cI seen
  ·simp[hk]
  simp[hk];intro tT lN;exact⟨⟨_,yB b.tenor⟩,fin tT lN⟩
noncomputable def oO (r:Realm)(b:Bill)(seen bL:Int):Int×Int:=
 open Classical in if h:RightD r then((vB r h b seen bL).choose_spec.2.choose,(vB r h b seen bL).choose_spec.2.choose_spec.choose) else(0,0)
theorem LI (r:Realm)(hr:RightD r)(b:Bill)(seen bL:Int):ak T BT [aZ r,dg b,.int seen,.int bL] (.tup [.int (oO r b seen bL).1,.int (oO r b seen bL).2]):=by
 have h:=(vB r hr b seen bL).choose_spec.2.choose_spec.choose_spec;have h1:=(vB r hr b seen bL).choose_spec.1;rw[h] at h1;have e:oO r b seen bL=((vB r hr b seen bL).choose_spec.2.choose,(vB r hr b seen bL).choose_spec.2.choose_spec.choose):=by unfold oO;rw[dif_pos hr]
 rw[e];exact h1
noncomputable def iP (r:Realm)(forum:Int)(f:File)(day:Int):Int:=
 if(aI f day).signs=[] then-1
 else if(oO r f.bill (hZ (aI f day)) (max (py (iv r forum 6 (aI f day) day)) 0)).2≠0 then-1
 else(oO r f.bill (hZ (aI f day)) (max (py (iv r forum 6 (aI f day) day)) 0)).1
@[simp] theorem aHh (x:File)(a0 a1 a2 a3 a4 a5 a6 a7 a8 a9 jZ j0 j3 j4 j5 lx ly lz lC:D):(cM [a0,a1,a2,a3,a4,a5,a6,a7,a8,a9,jZ,j0,j3,j4,j5,lx,ly,lz,lC] 0 [.int x.bill.drawer,.int x.bill.drawee,.int x.bill.payee,.int x.bill.sum,.int x.bill.currency,.int x.bill.tenor.kind,.int x.bill.tenor.n,.int x.bill.tenor.unit,.int x.bill.day,.int x.bill.city,.int x.bill.pay,.int x.bill.need,.int x.bill.rate,.int x.bill.flags,.int x.bill.parts,signs x.signs,alters x.alters,acts x.acts,facts x.facts])[15]?.getD D.none=signs x.signs:=_root_.id rfl
theorem afZ (r:Realm)(hr:Right r)(hd:RightD r)(forum:Int)(f:File)(day:Int)(hf:FewS f):ak T ZJ [aZ r,.int forum,cD f,.int day] (.int (iP r forum f day)):=by
 refine .of_tree rfl agx ayx ?_;simp[SG];refine⟨_,R5 f day (by have:=hf.signs;omega) (by have:=hf.acts;omega) (by have:=hf.alters;omega) (by have:=hf.facts;omega),?_⟩;have hg:=hf.at_ day;have hb:(aI f day).bill=f.bill:=rfl;unfold iP;generalize aI f day=g at*;simp;by_cases h0:g.signs=[]
 ·simp[h0]
 simp[h0];refine⟨_,Vz r hr forum 6 g day hg,_,agq _,_,aeC g (by have:=hg.signs;omega) (by have:=hg.acts;omega),?_⟩;have hm:(if(D.int (py (iv r forum 6 g day))).i<0 then D.int 0 else D.int (py (iv r forum 6 g day)))=D.int (max (py (iv r forum 6 g day)) 0):=by
  simp only[FL];split
  ·rw[Int.max_eq_right (by omega)]
  ·rw[Int.max_eq_left (by omega)]
 rw[hm,hb];refine⟨_,LI r hd f.bill _ _,?_⟩;by_cases he:(oO r f.bill (hZ g) (max (py (iv r forum 6 g day)) 0)).2=0<;>simp[he]
end Rm
namespace Rm
open Go Go.Proofs Cx
end Rm
namespace Rm
open Go Go.Proofs Cx
theorem M8 {n:Nat}{f:Nat→Int}(h:eQ n f=0)(k:Nat)(hk:k<n):f k=0:=WK.1 h k hk
theorem alF {r:Realm}(h:gJ r=0)(k:Nat)(hk:k<r.orders.length):nZ r.orders[k]=true:=by
 unfold gJ at h;rw[Si] at h;have h1:=h (ei (dZ r) 20 (l8 r)) (by simp);unfold ei at h1;split at h1
 ·cases h1
 have h2:=M8 h1 k (by simpa [dZ] using hk);have h3:=(Az h2).2;unfold l8 at h3;simpa [hk] using h3
theorem aqb {r:Realm}(hs:Small r)(h:gJ r=0):yz r:=by
 intro o ho;obtain⟨k,hk,rfl⟩:=List.getElem_of_mem ho;have h1:=alF h k hk;obtain⟨hc,_⟩:=hs.order _ ho;refine⟨by omega,fun ch kK=>?_⟩;unfold nZ at h1;simp only[Bool.and_eq_true] at h1;obtain⟨j,hj,rfl⟩:=List.getElem_of_mem kK;have h2:=vH.1 h1.1 j hj;simpa [aw,hj] using h2
theorem aqc {r:Realm}(hs:Small r)(h:gJ r=0):sV r:=by
 refine⟨by have:=hs.halts;omega,fun x hx=>?_⟩;obtain⟨k,hk,rfl⟩:=List.getElem_of_mem hx;unfold gJ at h;rw[Si] at h;have h1:=h (m5 r) (by simp);unfold m5 at h1;split at h1
 ·cases h1
 split at h1
 ·cases h1
 split at h1
 ·cases h1
 split at h1
 ·rename_i aP;have h2:=vH.1 aP k hk;simp[rA,wi,aw,hk] at h2;omega
 ·cases h1
structure Good (r:Realm) (f:File):Prop where
 right:Right r
 rightD:RightD r
 few:FewS f
theorem aqd {r:Realm}{f:File}(hr:r.OK)(h:AK r f=true):Good r f:=by
 unfold AK oS at h;simp only[Bool.and_eq_true,decide_eq_true_eq] at h;obtain⟨⟨⟨h1,h2⟩,h3⟩,h4⟩:=h;have hs:=M5 hr h1;refine⟨⟨aqb hs h4,by have:=hs.orders;omega,fun o ho=>?_⟩,⟨hs,aqc hs h4⟩,?_⟩
 ·have:=hs.order o ho;refine⟨?_,by omega⟩;exact hr.2.2.2.2.1.2 o ho
 ·simp[Aw] at h2;exact⟨by omega,by omega,by omega,by omega⟩
end Rm
namespace Rm
open Go Go.Proofs Cx
def DQ (a b:Cell):Prop:=a.known=true→b=a
theorem DQ.rfl' (a:Cell):DQ a a:=fun _=>rfl
theorem aAG {a b:Said}(h:DQ a.cell b.cell)(he:b.err=a.err)(hn:ku a≠2):ku b=ku a:=by
 unfold ku at*;rw[he];split
 ·rfl
 ·rename_i e;rw[if_neg e] at hn;cases hk:a.cell.known
  ·rw[hk] at hn;simp at hn
  ·rw[h hk,hk]
end Rm
namespace Rm
open Go Go.Proofs Cx
theorem WC (f:File)(day k s:Int):fK (aI f day) k s=if aw s (gF day f.signs).length=true then fK f k s else dK:=by
 unfold fK;have h:(aI f day).facts.find? (qk k s)=if aw s (gF day f.signs).length=true then f.facts.find? (qk k s) else none:=by
  show(f.facts.filter (eP (gF day f.signs).length)).find? (qk k s)=_;generalize (gF day f.signs).length=n
  induction f.facts with
  |nil=>simp
  |cons x l ih=>
   by_cases hx:qk k s x=true
   ·have hs:x.at_=s:=by simp[qk] at hx;exact hx.2
    by_cases hn:aw s n=true
    ·have:eP n x=true:=by unfold eP;rw[hs];exact hn
     simp[List.filter_cons,this,hx,hn]
    ·have:¬eP n x=true:=by unfold eP;rw[hs];exact hn
     simp only[List.filter_cons,if_neg this,ih,if_neg hn]
   ·by_cases hn:eP n x=true
    ·simp[List.filter_cons,hn,hx,ih]
    ·simp[List.filter_cons,hn,hx,ih]
 rw[h];by_cases hn:aw s (gF day f.signs).length=true
 ·rw[if_pos hn,if_pos hn]
 ·rw[if_neg hn,if_neg hn]
end Rm
namespace Rm
open Go Go.Proofs Cx
@[simp] theorem aG4:D.none.cells=[D.none]:=_root_.id rfl
end Rm
namespace Rm
open Go Go.Proofs Cx
end Rm
namespace Rm
open Go Cx
structure Kept where
 shown:Int
 protest:Int
 notice:Int
 all_:Int
 deriving DecidableEq,Inhabited
def nB (x:Kept):D:=.agg [.int x.shown,.int x.protest,.int x.notice,.int x.all_]
@[simp] theorem aCX (x:Kept):(nB x).cells=[.int x.shown,.int x.protest,.int x.notice,.int x.all_]:=_root_.id rfl
@[simp] theorem aGQ (x:Kept):D.agg [.int x.shown,.int x.protest,.int x.notice,.int x.all_]=nB x:=_root_.id rfl
@[simp] theorem aCT (x:Kept):(nB x).c 0=.int x.shown:=_root_.id rfl
@[simp] theorem aCU (x:Kept):(nB x).c 1=.int x.protest:=_root_.id rfl
@[simp] theorem aCV (x:Kept):(nB x).c 2=.int x.notice:=_root_.id rfl
@[simp] theorem aCW (x:Kept):(nB x).c 3=.int x.all_:=_root_.id rfl
end Rm
namespace Rm
open Go Go.Proofs Cx
structure DView where
 realm:Realm
 forum:Int
 file:File
 sign:Int
 day:Int
 due:Int
 deriving Inhabited
def bU (x:DView):D:=.agg [strs x.realm.currencies,kH x.realm.cities,groups x.realm.groups,firms x.realm.firms,orders x.realm.orders,usances x.realm.usances,rates x.realm.rates,halts x.realm.halts,.int x.forum,.int x.file.bill.drawer,.int x.file.bill.drawee,.int x.file.bill.payee,.int x.file.bill.sum,.int x.file.bill.currency,.int x.file.bill.tenor.kind,.int x.file.bill.tenor.n,.int x.file.bill.tenor.unit,.int x.file.bill.day,.int x.file.bill.city,.int x.file.bill.pay,.int x.file.bill.need,.int x.file.bill.rate,.int x.file.bill.flags,.int x.file.bill.parts,signs x.file.signs,alters x.file.alters,acts x.file.acts,facts x.file.facts,.int x.sign,.int x.day,.int x.due]
@[simp] theorem aCw (x:DView):(bU x).cells=[strs x.realm.currencies,kH x.realm.cities,groups x.realm.groups,firms x.realm.firms,orders x.realm.orders,usances x.realm.usances,rates x.realm.rates,halts x.realm.halts,.int x.forum,.int x.file.bill.drawer,.int x.file.bill.drawee,.int x.file.bill.payee,.int x.file.bill.sum,.int x.file.bill.currency,.int x.file.bill.tenor.kind,.int x.file.bill.tenor.n,.int x.file.bill.tenor.unit,.int x.file.bill.day,.int x.file.bill.city,.int x.file.bill.pay,.int x.file.bill.need,.int x.file.bill.rate,.int x.file.bill.flags,.int x.file.bill.parts,signs x.file.signs,alters x.file.alters,acts x.file.acts,facts x.file.facts,.int x.sign,.int x.day,.int x.due]:=_root_.id rfl
@[simp] theorem aGK (x:DView):D.agg [strs x.realm.currencies,kH x.realm.cities,groups x.realm.groups,firms x.realm.firms,orders x.realm.orders,usances x.realm.usances,rates x.realm.rates,halts x.realm.halts,.int x.forum,.int x.file.bill.drawer,.int x.file.bill.drawee,.int x.file.bill.payee,.int x.file.bill.sum,.int x.file.bill.currency,.int x.file.bill.tenor.kind,.int x.file.bill.tenor.n,.int x.file.bill.tenor.unit,.int x.file.bill.day,.int x.file.bill.city,.int x.file.bill.pay,.int x.file.bill.need,.int x.file.bill.rate,.int x.file.bill.flags,.int x.file.bill.parts,signs x.file.signs,alters x.file.alters,acts x.file.acts,facts x.file.facts,.int x.sign,.int x.day,.int x.due]=bU x:=_root_.id rfl
@[simp] theorem aDY (x:DView):iu 31 (bU x)=bU x:=_root_.id rfl
@[simp] theorem aHd (x:DView)(a0 a1 a2 a3 a4 a5 a6 a7 a8 a9 jZ j0 j3 j4 j5 lx ly lz lC sY sZ s9 tc td yC yD yE yF yG yH yI:D):D.agg (cM [a0,a1,a2,a3,a4,a5,a6,a7,a8,a9,jZ,j0,j3,j4,j5,lx,ly,lz,lC,sY,sZ,s9,tc,td,yC,yD,yE,yF,yG,yH,yI] 0 [strs x.realm.currencies,kH x.realm.cities,groups x.realm.groups,firms x.realm.firms,orders x.realm.orders,usances x.realm.usances,rates x.realm.rates,halts x.realm.halts,.int x.forum,.int x.file.bill.drawer,.int x.file.bill.drawee,.int x.file.bill.payee,.int x.file.bill.sum,.int x.file.bill.currency,.int x.file.bill.tenor.kind,.int x.file.bill.tenor.n,.int x.file.bill.tenor.unit,.int x.file.bill.day,.int x.file.bill.city,.int x.file.bill.pay,.int x.file.bill.need,.int x.file.bill.rate,.int x.file.bill.flags,.int x.file.bill.parts,signs x.file.signs,alters x.file.alters,acts x.file.acts,facts x.file.facts,.int x.sign,.int x.day,.int x.due])=bU x:=_root_.id rfl
@[simp] theorem aB8 (x:DView):(bU x).c 1=kH x.realm.cities:=_root_.id rfl
@[simp] theorem aCu (x:DView):(bU x).c 8=.int x.forum:=_root_.id rfl
@[simp] theorem aCv (x:DView):(bU x).c 9=.int x.file.bill.drawer:=_root_.id rfl
@[simp] theorem aB9 (x:DView):(bU x).c 10=.int x.file.bill.drawee:=_root_.id rfl
@[simp] theorem aCa (x:DView):(bU x).c 11=.int x.file.bill.payee:=_root_.id rfl
@[simp] theorem aCb (x:DView):(bU x).c 12=.int x.file.bill.sum:=_root_.id rfl
@[simp] theorem aCc (x:DView):(bU x).c 13=.int x.file.bill.currency:=_root_.id rfl
@[simp] theorem aCd (x:DView):(bU x).c 14=.int x.file.bill.tenor.kind:=_root_.id rfl
@[simp] theorem aCe (x:DView):(bU x).c 15=.int x.file.bill.tenor.n:=_root_.id rfl
@[simp] theorem aCf (x:DView):(bU x).c 16=.int x.file.bill.tenor.unit:=_root_.id rfl
@[simp] theorem aCg (x:DView):(bU x).c 17=.int x.file.bill.day:=_root_.id rfl
@[simp] theorem aCh (x:DView):(bU x).c 18=.int x.file.bill.city:=_root_.id rfl
@[simp] theorem aCi (x:DView):(bU x).c 19=.int x.file.bill.pay:=_root_.id rfl
@[simp] theorem aCj (x:DView):(bU x).c 20=.int x.file.bill.need:=_root_.id rfl
@[simp] theorem aCk (x:DView):(bU x).c 21=.int x.file.bill.rate:=_root_.id rfl
@[simp] theorem aCl (x:DView):(bU x).c 22=.int x.file.bill.flags:=_root_.id rfl
@[simp] theorem aCm (x:DView):(bU x).c 23=.int x.file.bill.parts:=_root_.id rfl
@[simp] theorem aCn (x:DView):(bU x).c 24=signs x.file.signs:=_root_.id rfl
@[simp] theorem aCo (x:DView):(bU x).c 25=alters x.file.alters:=_root_.id rfl
@[simp] theorem aCp (x:DView):(bU x).c 26=acts x.file.acts:=_root_.id rfl
@[simp] theorem aCq (x:DView):(bU x).c 27=facts x.file.facts:=_root_.id rfl
@[simp] theorem aCr (x:DView):(bU x).c 28=.int x.sign:=_root_.id rfl
@[simp] theorem aCs (x:DView):(bU x).c 29=.int x.day:=_root_.id rfl
@[simp] theorem aCt (x:DView):(bU x).c 30=.int x.due:=_root_.id rfl
def lD (l:List Int):Int:=if hasB l 0=true then 0 else if hasB l 2=true then 2 else 1
def oD (said:Said)(answer:Int):Int:=if ku said=0∨answer=1 then 1 else if ku said=2 then 2 else answer
def never:Int:=9223372036854775807
def qL (c:City):Nat→Int→Int×Int
 |0,d=>(d,0)
 |n+1,d=>if(eJ c (d+1)).2≠0 then(0,(eJ c (d+1)).2) else qL c n (eJ c (d+1)).1
def qK (c:City)(d n:Int):Int×Int:=if cI d=false∨n<0∨20000<n then(0,3) else qL c n.toNat d
def dB (c:City)(said:Said)(fr:Int):Bool×Int:=
 if said.err≠0 then(true,never) else if said.cell.known=false then(false,0) else(true,if(qK c fr said.cell.n).2≠0 then never else(qK c fr said.cell.n).1)
def ae9 (said:Said)(VK:Int):Bool×Int:=
 if said.err≠0 then(true,never) else if said.cell.known=false then(false,0) else if 100000<VK+said.cell.n then(true,never) else(true,VK+said.cell.n)
def mi (day on:Int)(t:Bool×Int):Int:=if t.1=false then 2 else if on≠-1∧on≤t.2 then 1 else if on≠-1∨t.2<day then 0 else 2
def ql (b:Bill)(kind fr:Int)(a:Act):Bool:=decide (a.kind=kind)&&decide (a.to=b.drawee)&&decide (fr≤a.day)
def fY (b:Bill)(l:List Act)(kind fr:Int):Int:=((l.find? (ql b kind fr)).map (·.day)).getD (-1)
def me (b:Bill)(l:List Act)(due:Int):Int:=if due<fY b l 1 0 then-1 else fY b l 1 0
def Wj (b:Bill)(l:List Act)(due:Int):Int:=if me b l due≠-1 then me b l due else due
def DView.city (v:DView):City:=v.realm.cities.getD v.file.bill.pay.toNat default
def DView.asked (v:DView)(q:Int):Said:=lE v.realm v.forum q ⟨v.file,v.sign,v.sign,-1,v.due,v.day⟩
def DView.show_ (v:DView):Bool×Int:=ae9 (iv v.realm v.forum 7 v.file v.day) v.file.bill.day
def DView.refused (v:DView):Int:=me v.file.bill v.file.acts v.due
def DView.dishon (v:DView):Int:=Wj v.file.bill v.file.acts v.due
def DView.seen_ (v:DView):Int:=if v.file.bill.tenor.kind=1 then mi v.day (hZ v.file) v.show_ else 1
def DView.presented (v:DView):Int:=
 if v.file.bill.tenor.kind=0 then mi v.day (fY v.file.bill v.file.acts 2 0) v.show_
 else if v.refused≠-1 then v.seen_
 else if v.due=-1 then lD [v.seen_,2]
 else lD [v.seen_,mi v.day (fY v.file.bill v.file.acts 2 v.due) (dB v.city (v.asked 10) v.due)]
def gZ (b:Bill)(fr last w:Int):List Act→Int→Int
 |[],fJ=>fJ
 |a::l,fJ=>
  if a.kind≠4∨a.to≠b.drawee∨a.day<fr∨last<a.day then gZ b fr last w l fJ
  else if(if a.form=1 then w else 1)=1 then 1
  else gZ b fr last w l (if(if a.form=1 then w else 1)=2 then 2 else fJ)
def DView.protested (v:DView):Int:=
 if(dB v.city (v.asked 10) v.dishon).1=false then 2
 else gZ v.file.bill v.dishon (dB v.city (v.asked 10) v.dishon).2 (ku (v.asked 9)) v.file.acts (if v.day≤(dB v.city (v.asked 10) v.dishon).2 then 2 else 0)
def se (dd:Int→Int)(fr tl:Int)(bY:List Act)(a:Act):Bool:=(decide (fr≤a.day)&&decide (a.day≤tl))||bY.any fun b=>decide (b.to=a.who)&&decide (a.day≤dd b.day)
def fE (dd:Int→Int)(fr tl who:Int):List Act→List Act→Int→Bool×Int
 |[],_,last=>(false,last)
 |a::l,bY,last=>
  if a.kind≠5 then fE dd fr tl who l bY last
  else if se dd fr tl bY a=false then fE dd fr tl who l bY last
  else if a.to=who then(true,last)
  else fE dd fr tl who l (bY++[a]) (max last (dd a.day))
def DView.who (v:DView):Int:=(dm v.file v.sign).who
def DView.notified (v:DView):Int:=
 if(dB v.city (v.asked 12) v.dishon).1=false then 2
 else if(fE (fun d=>(dB v.city (v.asked 12) d).2) v.dishon (dB v.city (v.asked 12) v.dishon).2 v.who v.file.acts [] (dB v.city (v.asked 12) v.dishon).2).1=true then 1
 else if(fE (fun d=>(dB v.city (v.asked 12) d).2) v.dishon (dB v.city (v.asked 12) v.dishon).2 v.who v.file.acts [] (dB v.city (v.asked 12) v.dishon).2).2<v.day then 0 else 2
noncomputable def jr (r:Realm)(forum:Int)(f:File)(sign day:Int):DView:=⟨r,forum,aI f day,sign,day,iP r forum f day⟩
def noK:Kept:=⟨0,0,0,0⟩
def DView.kept (v:DView):Kept:=
 if v.sign<0∨v.file.signs.length≤v.sign then noK
 else
    let p:=if v.due≠-1 then oD (v.asked 8) v.protested else 2
    let n:=if v.due≠-1 then oD (v.asked 11) v.notified else 2
    ⟨v.presented,p,n,lD [v.presented,p,n]⟩
noncomputable def jo (r:Realm)(forum:Int)(f:File)(sign day:Int):Kept:=(jr r forum f sign day).kept
noncomputable def MR (r:Realm)(forum:Int)(f:File)(day:Int):Int:=(jr r forum f 0 day).dishon
def vD (n:Int):Prop:=n=0∨n=1∨n=2
theorem ayt (d o:Int)(t:Bool×Int):vD (mi d o t):=by
 unfold mi
 repeat' split
 all_goals simp[vD]
theorem axZ (v:DView):vD v.seen_:=by unfold DView.seen_;split;exact ayt _ _ _;simp[vD]
def de (a b:Int):Prop:=a=2∨a=b
theorem Vv (a b c:Int):lD [a,b,c]=if a=0∨b=0∨c=0 then 0 else if a=2∨b=2∨c=2 then 2 else 1:=by
 unfold lD;simp only[AU,List.mem_cons,List.not_mem_nil,or_false,eq_comm (a:=(0:Int)),eq_comm (a:=(2:Int))]
theorem vJ (a b:Int):lD [a,b]=if a=0∨b=0 then 0 else if a=2∨b=2 then 2 else 1:=by
 unfold lD;simp only[AU,List.mem_cons,List.not_mem_nil,or_false,eq_comm (a:=(0:Int)),eq_comm (a:=(2:Int))]
theorem agl {a b c a' b' c':Int}(ha:de a a')(hb:de b b')(hc:de c c'):de (lD [a,b,c]) (lD [a',b',c']):=by
 rw[Vv,Vv];unfold de at*
 repeat' split
 all_goals omega
theorem agk {a b a' b':Int}(ha:de a a')(hb:de b b'):de (lD [a,b]) (lD [a',b']):=by
 rw[vJ,vJ];unfold de at*
 repeat' split
 all_goals omega
structure SLe (a b:Said):Prop where
 cell:DQ a.cell b.cell
 err:b.err=a.err
theorem SLe.rfl' (a:Said):SLe a a:=⟨.rfl' _,rfl⟩
theorem SLe.tri {a b:Said}(h:SLe a b):de (ku a) (ku b):=by
 by_cases e:ku a=2
 ·exact .inl e
 ·exact .inr (aAG h.cell h.err e).symm
theorem afz {s s':Said}{a a':Int}(hs:SLe s s')(ha:de a a'):de (oD s a) (oD s' a'):=by
 have ht:=hs.tri;unfold oD;unfold de at*
 repeat' split
 all_goals omega
structure KStays (a b:Kept):Prop where
 shown:de a.shown b.shown
 protest:de a.protest b.protest
 notice:de a.notice b.notice
 all_:de a.all_ b.all_
end Rm
namespace Rm
open Go Go.Proofs Cx
theorem afw {α:Type}{p:α→Bool}{l:List α}{x:α}(h:x∈l.takeWhile p):p x=true:=by
 induction l with
 |nil=>cases h
 |cons y l ih=>
  rw[List.takeWhile_cons] at h;split at h
  ·rcases List.mem_cons.1 h with rfl|h
   ·assumption
   ·exact ih h
  ·cases h
end Rm
namespace Rm
open Go Go.Proofs Cx
@[simp] theorem aG3:D.none.b=false:=_root_.id rfl
theorem ec (n a b:Int):ak T BR [.int n,.int a,.int b] (.bool (wi n a b)):=by
 refine .of_tree rfl ahn azq ?_;simp[TA];by_cases h:a≤n<;>simp[wi,h]
theorem ml (n m:Int):ak T aby [.int n,.int m] (.bool (aw n m)):=by
 refine .of_tree rfl aiD aAE ?_;simp[UP];by_cases h:0≤n<;>simp[aw,h]
def Ll (b:Bill):Bool:=
 if b.tenor.kind=0∨b.tenor.kind=4 then decide (b.tenor.n=0)&&decide (b.tenor.unit=0)
 else if b.tenor.kind=1∨b.tenor.kind=2 then(decide (1≤b.tenor.n)&&decide (b.tenor.n≤400))&&(decide (b.tenor.unit=0)||decide (b.tenor.unit=1))
 else if b.tenor.kind=3 then(decide (b.day≤b.tenor.n)&&decide (b.tenor.n≤100000))&&decide (b.tenor.unit=0)
 else false
theorem aA4 (b:Bill):ak T abz [dg b] (.bool (Ll b)):=by
 refine .of_tree rfl aiE aAF ?_;unfold Ll;simp[UQ];by_cases h0:b.tenor.kind=0
 ·by_cases h1:b.tenor.n=0<;>simp[h0,h1]
 by_cases h4:b.tenor.kind=4
 ·by_cases h1:b.tenor.n=0<;>simp[h4,h1]
 simp[h0,h4];by_cases k1:b.tenor.kind=1
 ·by_cases h1:1≤b.tenor.n<;>by_cases h2:b.tenor.n≤400<;>by_cases h3:b.tenor.unit=0<;>simp[k1,h1,h2,h3]
 by_cases k2:b.tenor.kind=2
 ·by_cases h1:1≤b.tenor.n<;>by_cases h2:b.tenor.n≤400<;>by_cases h3:b.tenor.unit=0<;>simp[k2,h1,h2,h3]
 simp[k1,k2];by_cases k3:b.tenor.kind=3
 ·by_cases h1:b.day≤b.tenor.n<;>by_cases h2:b.tenor.n≤100000<;>simp[k3,h1,h2]
 simp[k3]
def qG (n m:Int):Bool:=decide (n=-1)||aw n m
def vx (r:Realm)(b:Bill):Bool:=((aw b.drawer r.firms.length&&aw b.drawee r.firms.length)&&qG b.payee r.firms.length)&&qG b.need r.firms.length
def qY (r:Realm)(b:Bill):Bool:=(aw b.currency r.currencies.length&&aw b.city r.cities.length)&&aw b.pay r.cities.length
def vc (b:Bill):Prop:=((((1≤b.sum∧b.sum≤1099511627776)∧0≤b.day)∧b.day≤100000)∧0≤b.rate)∧b.rate≤1000
def Ni (b:Bill):Prop:=((0≤b.flags∧b.flags≤7)∧(cY .and .i64 b.flags 4=0∨¬b.payee=-1))∧Ll b=true
structure BillOK (r:Realm) (b:Bill):Prop where
 realm:gJ r=0
 who:vx r b=true
 where_:qY r b=true
 range:vc b
 parts:1≤b.parts∧b.parts≤4
 form:Ni b
 usance:b.tenor.kind=4→∃u,u∈r.usances∧u.fr=b.city∧u.to=b.pay
def nk (P:Prop)(d:D):Prop:=∃e:Int,d=.int e∧(e=0↔P)
theorem nk.no {P:Prop}{e:Int}(h:¬P)(he:e≠0):nk P (.int e):=⟨e,rfl,fun x=>absurd x he,fun x=>absurd x h⟩
theorem nk.ok {P:Prop}(h:P):nk P (.int 0):=⟨0,rfl,fun _=>h,fun _=>rfl⟩
theorem aA3 (r:Realm)(hs:Small r)(b:Bill):∃d,ak T abx [aZ r,dg b] d∧nk (BillOK r b) d:=by
 refine ak.ex_of_tree rfl aiC aAD ?_;simp[UO];refine⟨_,KY r hs,?_⟩;by_cases h0:gJ r=0
 case neg=>
  simp[h0];exact .no (fun h=>h0 h.realm) h0
 simp[h0];refine⟨_,ml _ _,?_⟩;cases h1:aw b.drawer r.firms.length
 ·simp;exact .no (fun h=>by simpa [vx,h1] using h.who) (by decide)
 simp;refine⟨_,ml _ _,?_⟩;cases h2:aw b.drawee r.firms.length
 ·simp;exact .no (fun h=>by simpa [vx,h2] using h.who) (by decide)
 by_cases h3:qG b.payee r.firms.length=true
 case neg=>
  have dx:¬b.payee=-1∧aw b.payee r.firms.length=false:=by simpa [qG] using h3
  simp[dx.1];refine⟨_,ml _ _,?_⟩;simp[dx.2];exact .no (fun h=>h3 (by have:=h.who;simp[vx] at this;exact this.1.2)) (by decide)
 by_cases h4:qG b.need r.firms.length=true
 case neg=>
  have lJ:¬b.need=-1∧aw b.need r.firms.length=false:=by simpa [qG] using h4
  have dy:nk (BillOK r b) (.int 1):=.no (fun h=>h4 (by have:=h.who;simp[vx] at this;exact this.2)) (by decide);by_cases hp:b.payee=-1
  ·simp[hp,lJ.1];refine⟨_,ml _ _,?_⟩;simp[lJ.2];exact dy
  ·have dx:aw b.payee r.firms.length=true:=by simpa [qG,hp] using h3
   simp[hp];refine⟨_,ml _ _,?_⟩;simp[dx,lJ.1];refine⟨_,ml _ _,?_⟩;simp[lJ.2];exact dy
 have uk:vx r b=true:=by simp[vx,h1,h2,h3,h4]
 have hp:b.payee=-1∨(¬b.payee=-1∧aw b.payee r.firms.length=true):=by
  by_cases e:b.payee=-1
  ·exact .inl e
  ·exact .inr ⟨e,by simpa [qG,e] using h3⟩
 have hn:b.need=-1∨(¬b.need=-1∧aw b.need r.firms.length=true):=by
  by_cases e:b.need=-1
  ·exact .inl e
  ·exact .inr ⟨e,by simpa [qG,e] using h4⟩
 have bad:¬qY r b=true→nk (BillOK r b) (.int 1):=fun h=>.no (fun k=>h k.where_) (by decide);have fin:∀u:Int,(u=0↔∃u,u∈r.usances∧u.fr=b.city∧u.to=b.pay)→vc b→(1≤b.parts∧b.parts≤4)→Ni b→qY r b=true→nk (BillOK r b) (if b.tenor.kind=4 then .int u else .int 0):=by
  intro u hu h6 h7 h8 h9;by_cases e:b.tenor.kind=4
  ·rw[if_pos e];exact⟨u,rfl,fun h=>⟨h0,uk,h9,h6,h7,h8,fun _=>hu.1 h⟩,fun h=>hu.2 (h.usance e)⟩
  ·rw[if_neg e];exact .ok ⟨h0,uk,h9,h6,h7,h8,fun h=>absurd h e⟩
 obtain⟨un,ue,hu1,_,hu2⟩:=Vm r b.city b.pay (by have:=hs.us;omega);rcases hp with hp|⟨hp,eF⟩<;>rcases hn with hn|⟨hn,nN⟩
 case' inl.inl=>simp[hp,hn]
 case' inl.inr=>simp[hp,hn];refine⟨_,ml _ _,?_⟩;simp[nN]
 case' inr.inl=>simp[hp,hn];refine⟨_,ml _ _,?_⟩;simp[eF]
 case' inr.inr=>simp[hp,hn];refine⟨_,ml _ _,?_⟩;simp[eF];refine⟨_,ml _ _,?_⟩;simp[nN]
 all_goals
  refine⟨_,ml _ _,?_⟩;cases h5:aw b.currency r.currencies.length
  ·simp;exact bad (by simp[qY,h5])
  simp;refine⟨_,ml _ _,?_⟩;cases h6:aw b.city r.cities.length
  ·simp;exact bad (by simp[qY,h6])
  simp;refine⟨_,ml _ _,?_⟩;cases h7:aw b.pay r.cities.length
  ·simp;exact bad (by simp[qY,h7])
  have BC:qY r b=true:=by simp[qY,h5,h6,h7]
  simp;by_cases h8:vc b
  case neg=>
   have Nn:((((b.sum<1∨1099511627776<b.sum)∨b.day<0)∨100000<b.day)∨b.rate<0)∨1000<b.rate:=by unfold vc at h8;omega
   rw[if_pos Nn];exact .no (fun k=>h8 k.range) (by decide)
  have Nn:¬(((((b.sum<1∨1099511627776<b.sum)∨b.day<0)∨100000<b.day)∨b.rate<0)∨1000<b.rate):=by unfold vc at h8;omega
  rw[if_neg Nn];by_cases h9:1≤b.parts∧b.parts≤4
  case neg=>
   rw[if_pos (by omega)];exact .no (fun k=>h9 k.parts) (by decide)
  rw[if_neg (by omega)];have LW:¬Ni b→nk (BillOK r b) (.int 2):=fun h=>.no (fun k=>h k.form) (by decide);by_cases g1:0≤b.flags∧b.flags≤7
  case neg=>
   have eD:b.flags<0∨7<b.flags:=by omega
   simp[g1,eD];exact LW (fun h=>g1 h.1.1)
  have eD:¬(b.flags<0∨7<b.flags):=by omega
  by_cases g2:cY .and .i64 b.flags 4=0∨¬b.payee=-1
  case neg=>
   have mB:¬cY .and .i64 b.flags 4=0∧b.payee=-1:=by simpa using g2
   first
        |exact absurd mB.2 hp
        |(simp[g1,eD,mB]
          exact LW (fun h=>g2 h.1.2))
  have g3:(b.payee=-1→cY .and .i64 b.flags 4=0):=fun e=>g2.resolve_right (fun h=>h e);simp[g1,eD,hp,g3];refine⟨_,aA4 b,?_⟩;cases mC:Ll b
  ·simp;exact LW (fun h=>by have:=h.2;rw[mC] at this;cases this)
  have hf:=fin ue hu2 h8 h9 ⟨⟨g1,g2⟩,mC⟩ BC;simp;by_cases e:b.tenor.kind=4
  ·simp[e] at hf ⊢;exact⟨_,hu1,hf⟩
  ·simp[e] at hf ⊢;exact hf
end Rm
namespace Rm
open Go Go.Proofs Cx
def yh (f:File)(i part:Int):Bool:=decide (i=0)||decide ((dm f i).part=part)
theorem adv (f:File)(i part:Int)(h:i=0∨(0≤i∧i<f.signs.length)):ak T aat [cD f,.int i,.int part] (.bool (yh f i part)):=by
 refine .of_tree rfl ahp azs ?_;unfold yh;by_cases h0:i=0
 ·simp[Lw,h0]
 ·obtain⟨h1,h2⟩:=h.resolve_left h0;have h3:i.toNat<f.signs.length:=by omega
  simp[Lw,h0,h1,h2,h3,dm]
def D3 (f:File)(i:Int)(kinds:List Int):Bool:=wi (dm f i).for_ 0 (i-1)&&(yh f (dm f i).for_ (dm f i).part&&hasB kinds (dm f (dm f i).for_).kind)
theorem awq (f:File)(i:Int)(kinds:List Int)(h:0≤i∧i<f.signs.length)(hl:f.signs.length≤100000)(hk:kinds.length≤100):ak T aap [cD f,.int i,ints kinds] (.bool (D3 f i kinds)):=by
 refine .of_tree rfl ahk azn ?_;have h1:i.toNat<f.signs.length:=by omega
 have hw:IntKind.i64.wrap (i-1)=i-1:=bD (by omega);have hs:dm f i=f.signs[i.toNat]:=by simp[dm,h1]
 unfold D3;rw[hs];simp[Tw,h,h1,hw];refine⟨_,ec _ _ _,?_⟩;cases hb:wi f.signs[i.toNat].for_ 0 (i-1)
 ·simp
 ·have bA:0≤f.signs[i.toNat].for_∧f.signs[i.toNat].for_<f.signs.length:=by
   simp[wi] at hb;omega
  have h2:f.signs[i.toNat].for_.toNat<f.signs.length:=by omega
  have dF:dm f f.signs[i.toNat].for_=f.signs[f.signs[i.toNat].for_.toNat]:=by simp[dm,h2]
  rw[dF];simp;refine⟨_,adv f _ _ (.inr bA),?_⟩;cases cv:yh f f.signs[i.toNat].for_ f.signs[i.toNat].part
  ·simp
  simp[bA,h2];exact pW kinds _ (by omega)
def WO (r:Realm)(b:Bill)(s:Sign)(B:List Int→Bool):Bool:=
 if s.kind=0 then((((decide (s.who=b.drawer)&&decide (s.sum=0))&&decide (cY .or .i64 s.flags 1=1))&&decide (s.part=0))&&decide (s.day=b.day))&&decide (s.city=b.city)
 else if s.kind=1 then decide (s.who=b.drawee)&&(wi s.sum 1 1099511627776&&decide (s.flags=0))
 else if s.kind=2 then((wi s.to (-1) ((r.firms.length:Int)-1)&&decide (s.sum=0))&&wi s.flags 0 7)&&decide (cY .and .i64 s.flags 6≠6)
 else if s.kind=3 then(decide (s.sum=0)&&decide (s.flags=0))&&B [0,1,2,4]
 else if s.kind=4 then((wi s.sum 1 1099511627776&&decide (s.flags=0))&&decide (s.who≠b.drawee))&&B [0,2]
 else false
def Nf (r:Realm)(b:Bill)(i:Nat)(s:Sign)(B:List Int→Bool):Bool:=
 if ¬(i=0↔s.kind=0)∨(¬s.kind=2∧¬s.to=-1) then false
 else if(¬s.kind=3∧¬s.kind=4)∧¬s.for_=-1 then false
 else WO r b s B
def AB (r:Realm)(f:File)(i:Nat):Bool:=Nf r f.bill i (f.signs.getD i default) (D3 f i)
theorem aws (r:Realm)(hr:Small r)(f:File)(i:Nat)(h:i<f.signs.length)(hl:f.signs.length≤100000):ak T aar [aZ r,cD f,.int i] (.bool (AB r f i)):=by
 refine .of_tree rfl ahm azp ?_;have gy:=hr.firms;have hw:IntKind.i64.wrap ((r.firms.length:Int)-1)=(r.firms.length:Int)-1:=bD (by omega);have hs:f.signs.getD i default=f.signs[i]:=by simp[h]
 have NA:=fun ks hk=>awq f i ks ⟨by omega,by omega⟩ hl hk;unfold AB;rw[hs];generalize hB:D3 f i=B at NA ⊢;generalize hX:Nf r f.bill i f.signs[i] B=X;simp[Tz,h];generalize f.signs[i]=s at*;unfold Nf at hX;by_cases h1:¬(i=0↔s.kind=0)∨(¬s.kind=2∧¬s.to=-1)
 ·rw[if_pos h1] at hX ⊢;exact hX.symm
 rw[if_neg h1] at hX ⊢;by_cases h2:(¬s.kind=3∧¬s.kind=4)∧¬s.for_=-1
 ·rw[if_pos h2] at hX ⊢;exact hX.symm
 rw[if_neg h2] at hX ⊢;refine⟨_,ec _ _ _,?_⟩;unfold WO at hX;by_cases k0:s.kind=0
 ·rw[if_pos k0] at hX ⊢;rw[←hX];by_cases a:(((s.who=f.bill.drawer∧s.sum=0)∧cY BinOp.or IntKind.i64 s.flags 1=1)∧s.part=0)∧s.day=f.bill.day
  ·simp[a]
  ·rw[if_neg a]
   congr 1
   rw[eq_comm,Bool.eq_false_iff];intro e;simp at e;exact a e.1
 rw[if_neg k0] at hX ⊢;by_cases k1:s.kind=1
 ·rw[if_pos k1] at hX ⊢;rw[←hX];by_cases a:s.who=f.bill.drawee<;>cases wi s.sum 1 1099511627776<;>simp[a]
 rw[if_neg k1] at hX ⊢;by_cases k2:s.kind=2
 ·rw[if_pos k2] at hX ⊢;rw[←hX,hw];refine⟨_,ec _ _ _,?_⟩;cases wi s.to (-1) ((r.firms.length:Int)-1)
  ·simp
  by_cases a:s.sum=0
  case neg=>simp[a]
  simp[a];refine⟨_,ec _ _ _,?_⟩;cases wi s.flags 0 7<;>simp
 rw[if_neg k2] at hX ⊢;by_cases k3:s.kind=3
 ·rw[if_pos k3] at hX ⊢;rw[←hX];by_cases a:s.sum=0∧s.flags=0
  case neg=>
   rw[if_neg a,if_neg a]
   congr 1
   rw[eq_comm,Bool.eq_false_iff];intro e;simp at e;exact a e.1
  rw[if_pos a];refine⟨_,NA [0,1,2,4] (by decide),?_⟩;simp[a]
 rw[if_neg k3] at hX ⊢;by_cases k4:s.kind=4
 ·rw[if_pos k4] at hX ⊢;rw[←hX];cases wi s.sum 1 1099511627776
  ·simp
  by_cases a:s.flags=0∧¬s.who=f.bill.drawee
  case neg=>
   simp[a]
  simp[a];exact NA [0,2] (by decide)
 rw[if_neg k4] at hX ⊢;exact hX.symm
end Rm
namespace Rm
open Go Go.Proofs Cx
def j8 (f:File)(i:Nat):Int:=if i=0 then f.bill.day else(f.signs.getD (i-1) default).day
def DG (f:File)(i:Nat)(s:Sign):Bool:=(f.signs.take i).any fun x=>(decide (s.kind=1)&&decide (x.kind=1))&&decide (x.part=s.part)
def yg (r:Realm)(f:File)(i:Nat):Int:=
 let s:=f.signs.getD i default
 if wi s.part 0 (f.bill.parts-1)=false then 15
 else if aw s.who r.firms.length=false∨aw s.city r.cities.length=false then 1
 else if wi s.day (j8 f i) 100000=false∨(i=0∧¬s.day=j8 f i) then 13
 else if AB r f i=false then 14
 else if DG f i s=true then 5 else 0
theorem adu (r:Realm)(hr:Small r)(f:File)(hp:1≤f.bill.parts∧f.bill.parts≤4)(i:Nat)(h:i<f.signs.length)(hl:f.signs.length≤100000):ak T aas [aZ r,cD f,.int i] (.int (yg r f i)):=by
 refine .of_tree rfl aho azr ?_;have gy:=hr.firms;have NI:=hr.cities;have gS:IntKind.i64.wrap ((r.firms.length:Int)-1)=(r.firms.length:Int)-1:=bD (by omega);have cV:IntKind.i64.wrap ((r.cities.length:Int)-1)=(r.cities.length:Int)-1:=bD (by omega);have OY:IntKind.i64.wrap (f.bill.parts-1)=f.bill.parts-1:=bD (by omega);have hs:f.signs.getD i default=f.signs[i]:=by simp[h]
 generalize hX:yg r f i=X;unfold yg at hX;simp only[hs] at hX;simp[TB,h,gS,cV,OY];refine⟨_,ec _ _ _,?_⟩;cases a1:wi f.signs[i].part 0 (f.bill.parts-1)
 ·simpa [a1] using hX
 simp[a1] at hX ⊢;refine⟨_,ec _ _ _,?_⟩;rw[lV] at hX;cases a2:wi f.signs[i].who 0 ((r.firms.length:Int)-1)
 ·simpa [a2] using hX
 simp[a2] at hX ⊢;refine⟨_,ec _ _ _,?_⟩;rw[lV] at hX;cases a3:wi f.signs[i].city 0 ((r.cities.length:Int)-1)
 ·simpa [a3] using hX
 simp[a3] at hX ⊢;refine⟨by omega,?_⟩;have wH:min i f.signs.length=i:=by omega
 refine aO.forRounds i (fun k=>[.int (j8 f k),.bool ((f.signs.take k).any fun x=>(decide (f.signs[i].kind=1)&&decide (x.kind=1))&&decide (x.part=f.signs[i].part)),.int k]) (fun _=>[]) ?_ (fun k hk=>?_) ?_
 ·simp[j8]
 ·have hw:=bl hk (by omega);have aY:k<f.signs.length:=by omega
  have hf:j8 f (k+1)=f.signs[k].day:=by simp[j8,aY]
  rw[List.take_succ_eq_append_getElem aY,List.any_append];generalize ((f.signs.take k).any fun x=>(decide (f.signs[i].kind=1)&&decide (x.kind=1))&&decide (x.part=f.signs[i].part))=A;simp[aep,KJ,hk,aY,h,hw,hf,wH];cases A
  ·by_cases e1:f.signs[i].kind=1<;>by_cases e2:f.signs[k].kind=1<;>simp[e1,e2]
  ·simp
 ·have ht:DG f i f.signs[i]=true↔∃x,x∈List.take i f.signs∧(f.signs[i].kind=1∧x.kind=1)∧x.part=f.signs[i].part:=by simp[DG]
  simp[aep,KJ,wH,h];refine⟨_,ec _ _ _,?_⟩;by_cases a4:wi f.signs[i].day (j8 f i) 100000=false∨(i=0∧¬f.signs[i].day=j8 f i)
  ·rw[if_pos a4] at hX;rw[if_pos (by simpa using a4)];exact hX
  rw[if_neg a4] at hX;rw[if_neg (by simpa using a4)];refine⟨_,aws r hr f i h hl,?_⟩;cases a5:AB r f i
  ·simpa [a5] using hX
  simp[a5] at hX;simp only[al9,if_true];rw[←hX];by_cases a6:DG f i f.signs[i]=true
  ·rw[if_pos a6,if_pos (ht.1 a6)]
  ·rw[if_neg a6,if_neg (fun x=>a6 (ht.2 x))]
def DU (a:Act)(to at_ own:Bool):Bool:=
 if a.kind=0∨a.kind=1∨a.kind=2 then(to&&decide (a.at_=-1))&&decide (a.sum=0)
 else if a.kind=3∨a.kind=4∨a.kind=5 then((to&&decide (a.at_=-1))&&wi a.sum 0 1099511627776)&&wi a.form 0 1
 else if a.kind=6 then(to&&own)&&wi a.sum 1 1099511627776
 else if a.kind=9 then(decide (a.to=-1)&&own)&&decide (a.sum=0)
 else(decide (a.to=-1)&&at_)&&decide (a.sum=0)
def yN (f:File)(a:Act):Bool:=aw a.at_ f.signs.length&&yh f a.at_ a.part
def QA (f:File)(a:Act):Bool:=yN f a&&decide ((dm f a.at_).who=a.who)
def q8 (r:Realm)(f:File)(a:Act):Bool:=
 if aw a.who r.firms.length=false∨(¬a.kind=4∧¬a.form=0) then false else DU a (aw a.to r.firms.length) (yN f a) (QA f a)
theorem awo (r:Realm)(hr:Small r)(f:File)(a:Act)(hl:f.signs.length≤100000):ak T aan [aZ r,cD f,iw a] (.bool (q8 r f a)):=by
 refine .of_tree rfl ahi azl ?_;have gy:=hr.firms;have gS:IntKind.i64.wrap ((r.firms.length:Int)-1)=(r.firms.length:Int)-1:=bD (by omega);have cV:IntKind.i64.wrap ((f.signs.length:Int)-1)=(f.signs.length:Int)-1:=bD (by omega);generalize hX:q8 r f a=X;unfold q8 QA yN at hX;simp[Tu,gS,cV];refine⟨_,ec _ _ _,?_⟩;rw[←lV];have uh:=ec a.to 0 ((r.firms.length:Int)-1);have BC:=ec a.who 0 ((r.firms.length:Int)-1);rw[←lV] at uh BC;generalize aw a.to r.firms.length=tt at*;generalize aw a.who r.firms.length=ww at*;have fin:∀at_ own:Bool,(if ww=false∨(¬a.kind=4∧¬a.form=0) then false else DU a tt at_ own)=X→
  if ww=false∨(¬a.kind=4∧¬a.form=0) then X=false
  else if a.kind=0∨a.kind=1∨a.kind=2 then(if tt=true∧a.at_=-1 then D.bool (decide (a.sum=0)) else D.bool false)=D.bool X
  else if a.kind=3∨a.kind=5∨a.kind=4 then
        if tt=true∧a.at_=-1 then
         ∃d,ak (cN tab ext) BR [D.int a.sum,D.int 0,D.int 1099511627776] d∧
          if(tt=true∧a.at_=-1)∧d.b=true then
             ∃ri,ak (cN tab ext) BR [D.int a.form,D.int 0,D.int 1] ri∧(if(tt=true∧a.at_=-1)∧d.b=true then ri else D.bool false)=D.bool X
          else(if(tt=true∧a.at_=-1)∧d.b=true then D.none else D.bool false)=D.bool X
        else D.bool false=D.bool X
  else if a.kind=6 then
        if tt=true∧own=true then ∃ri,ak (cN tab ext) BR [D.int a.sum,D.int 1,D.int 1099511627776] ri∧(if tt=true∧own=true then ri else D.bool false)=D.bool X
        else(if tt=true∧own=true then D.none else D.bool false)=D.bool X
  else if a.kind=9 then(if a.to=-1∧own=true then D.bool (decide (a.sum=0)) else D.bool false)=D.bool X
  else(if a.to=-1∧at_=true then D.bool (decide (a.sum=0)) else D.bool false)=D.bool X:=by
  intro at_ own hX;by_cases p:ww=false∨(¬a.kind=4∧¬a.form=0)
  ·rw[if_pos p] at hX ⊢;exact hX.symm
  rw[if_neg p] at hX ⊢;unfold DU at hX;by_cases k0:a.kind=0∨a.kind=1∨a.kind=2
  ·rw[if_pos k0] at hX ⊢;rw[←hX];by_cases e:tt=true∧a.at_=-1
   ·simp[e]
   ·rw[if_neg e];cases tt<;>simp at e ⊢;simp[e]
  rw[if_neg k0] at hX ⊢;by_cases k3:a.kind=3∨a.kind=4∨a.kind=5
  ·rw[if_pos k3] at hX;rw[if_pos (by omega),←hX];by_cases e:tt=true∧a.at_=-1
   ·rw[if_pos e];refine⟨_,ec _ _ _,?_⟩;cases wi a.sum 0 1099511627776
    ·simp
    ·simp[e];exact ec _ _ _
   ·rw[if_neg e];cases tt<;>simp at e ⊢;simp[e]
  rw[if_neg k3] at hX;rw[if_neg (by omega)];by_cases k6:a.kind=6
  ·rw[if_pos k6] at hX ⊢;rw[←hX];by_cases e:tt=true∧own=true
   ·rw[if_pos e];refine⟨_,ec _ _ _,?_⟩;simp[e]
   ·rw[if_neg e,if_neg e];cases tt<;>cases own<;>simp at e ⊢
  rw[if_neg k6] at hX ⊢;by_cases k9:a.kind=9
  ·rw[if_pos k9] at hX ⊢;rw[←hX];cases own<;>by_cases e:a.to=-1<;>simp[e]
  rw[if_neg k9] at hX ⊢;rw[←hX];cases at_<;>by_cases e:a.to=-1<;>simp[e]
 cases h1:aw a.at_ f.signs.length
 ·have hf:=fin false false (by simpa [h1] using hX);simp at hf ⊢;refine⟨_,uh,_,BC,?_⟩;simpa using hf
 have cg:0≤a.at_∧a.at_<f.signs.length:=by simpa [aw] using h1
 have h2:a.at_.toNat<f.signs.length:=by omega
 have hs:dm f a.at_=f.signs[a.at_.toNat]:=by simp[dm,h2]
 simp[cg];refine⟨_,adv f _ _ (.inr cg),_,uh,_,BC,?_⟩;rw[h1,hs] at hX;have hf:=fin _ _ hX;cases h3:yh f a.at_ a.part
 ·rw[h3] at hf;simpa using hf
 ·rw[h3] at hf;simpa [h2] using hf
theorem He (a b:Int):(if a<b then b else a)=max a b:=by split<;>omega
theorem Hd (a b:Int):(if a<b then D.int b else D.int a)=D.int (max a b):=by
 rw[←He];split<;>rfl
def wZ (f:File)(i:Nat)(a:Act):Int:=
 let x:=if a.at_=-1 then f.bill.day else max f.bill.day (dm f a.at_).day
 if i=0 then x else max x (f.acts.getD (i-1) default).day
def pZ (r:Realm)(f:File)(i:Nat):Int:=
 let a:=f.acts.getD i default
 if wi a.part 0 (f.bill.parts-1)=false then 15
 else if aw a.city r.cities.length=false∨wi a.kind 0 9=false then 1
 else if q8 r f a=false then 14
 else if wi a.day (wZ f i a) 100000=false then 13 else 0
theorem Vp {r:Realm}{f:File}{a:Act}(h:q8 r f a=true)(hn:¬a.at_=-1):0≤a.at_∧a.at_<f.signs.length:=by
 unfold q8 at h;split at h
 ·cases h
 have key:yN f a=true→0≤a.at_∧a.at_<f.signs.length:=fun e=>by
  unfold yN at e;simp only[Bool.and_eq_true] at e;simpa [aw] using e.1
 unfold DU QA at h
 repeat' split at h
 all_goals simp only[Bool.and_eq_true,decide_eq_true_eq] at h
 ·exact absurd h.1.2 hn
 ·exact absurd h.1.1.2 hn
 ·exact key h.1.2.1
 ·exact key h.1.2.1
 ·exact key h.1.2
theorem awp (r:Realm)(hr:Small r)(f:File)(hp:1≤f.bill.parts∧f.bill.parts≤4)(hl:f.signs.length≤100000)(Bc:f.acts.length≤100000):ak T aao [aZ r,cD f] (.int (eQ f.acts.length (pZ r f))):=by
 refine .of_tree rfl ahj azm ?_;have NI:=hr.cities;have cV:IntKind.i64.wrap ((r.cities.length:Int)-1)=(r.cities.length:Int)-1:=bD (by omega);have OY:IntKind.i64.wrap (f.bill.parts-1)=f.bill.parts-1:=bD (by omega);simp[Tv];refine m9 f.acts.length (pZ r f) (fun k=>[.int 0,.int k]) (fun _=>[]) ?_ (fun k hk ho=>?_) (fun k hk ho hb=>?_) (fun hj=>?_)
 ·simp
 case' refine_2=>have hb:pZ r f k=pZ r f k:=rfl
 case' refine_3=>rw[hb]
 case refine_4=>simp[aen,KH,hj]
 all_goals
  have hw:=bl hk (by omega);have hs:f.acts.getD k default=f.acts[k]:=by simp[hk]
  clear hb;generalize hX:pZ r f k=X at*;unfold pZ at hX;simp only[hs] at hX;simp[aen,KH,hk,cV,OY,hw];refine⟨_,ec _ _ _,?_⟩;cases a1:wi f.acts[k].part 0 (f.bill.parts-1)
  ·simp[a1] at hX ⊢
   first|exact hX|(exfalso;omega)
  simp[a1] at hX ⊢;refine⟨_,ec _ _ _,?_⟩;rw[lV] at hX;cases a2:wi f.acts[k].city 0 ((r.cities.length:Int)-1)
  ·simp[a2] at hX ⊢
   first|exact hX|(exfalso;omega)
  simp[a2] at hX ⊢;refine⟨_,ec _ _ _,?_⟩;cases a3:wi f.acts[k].kind 0 9
  ·simp[a3] at hX ⊢
   first|exact hX|(exfalso;omega)
  simp[a3] at hX ⊢;refine⟨_,awo r hr f f.acts[k] hl,?_⟩;cases a4:q8 r f f.acts[k]
  ·simp[a4] at hX ⊢
   first|exact hX|(exfalso;omega)
  simp[a4] at hX ⊢;unfold wZ at hX;by_cases k0:k=0
  ·subst k0;by_cases e1:f.acts[0].at_=-1
   ·simp[e1] at hX;simp[e1];refine⟨_,ec _ _ _,?_⟩;split at hX
    ·rename_i e;simp[e]
     first|exact hX|(exfalso;omega)
    ·rename_i e
     first|(exfalso;omega)|simp[e]
   ·obtain⟨h5,h6⟩:=Vp a4 e1;have h7:f.acts[0].at_.toNat<f.signs.length:=by omega
    have h8:dm f f.acts[0].at_=f.signs[f.acts[0].at_.toNat]:=by simp[dm,h7]
    simp[e1,h8] at hX;simp[e1,h5,h6,h7,Hd,He];refine⟨_,ec _ _ _,?_⟩;split at hX
    ·rename_i e;simp[e]
     first|exact hX|(exfalso;omega)
    ·rename_i e
     first|(exfalso;omega)|simp[e]
  ·have bt:IntKind.i64.wrap ((k:Int)-1)=(k:Int)-1:=bD (by omega);have cq:((k:Int)-1).toNat=k-1:=by omega
   have kL:k-1<f.acts.length:=by omega
   have wF:0<k:=by omega
   by_cases e1:f.acts[k].at_=-1
   ·simp[k0,e1,kL] at hX;simp[e1,wF,bt,cq,kL,Hd,He];refine⟨by omega,_,ec _ _ _,?_⟩;split at hX
    ·rename_i e;simp[e]
     first|exact hX|(exfalso;omega)
    ·rename_i e
     first|(exfalso;omega)|simp[e]
   ·obtain⟨h5,h6⟩:=Vp a4 e1;have h7:f.acts[k].at_.toNat<f.signs.length:=by omega
    have h8:dm f f.acts[k].at_=f.signs[f.acts[k].at_.toNat]:=by simp[dm,h7]
    simp[k0,e1,kL,h8] at hX;simp[e1,wF,bt,cq,kL,h5,h6,h7,Hd,He];refine⟨by omega,_,ec _ _ _,?_⟩;split at hX
    ·rename_i e;simp[e]
     first|exact hX|(exfalso;omega)
    ·rename_i e
     first|(exfalso;omega)|simp[e]
end Rm
namespace Rm
open Go Go.Proofs Cx
def nu (a b:Int):Int:=if a<b then-1 else if b<a then 1 else 0
theorem YI (a:Int):ak T Z1 [.int a] (.bool false):=by
 refine .of_tree rfl agM ayP ?_;simp[SX]
theorem Vh (a b:Int):ak T ZZ [.int a,.int b] (.int (nu a b)):=by
 refine .of_tree rfl agK ayN ?_;simp[SV];refine⟨_,YI a,_,YI b,?_⟩;unfold nu;by_cases h1:a<b
 ·simp[h1]
 by_cases h2:b<a<;>simp[h1,h2]
theorem af2 (l:List Int)(hl:l.length≤100000):ak T Z0 [ints l] (.int (eQ l.length fun k=>l.getD k 0)):=by
 refine .of_tree rfl agL ayO ?_;simp[SW];refine m9 l.length (fun k=>l.getD k 0) (fun k=>[.int 0,.int k]) (fun _=>[]) ?_ (fun k hk ho=>?_) (fun k hk ho hb=>?_) (fun hj=>?_)
 ·simp
 ·have hw:=bl hk (by omega);have hx:l[k]=0:=by simpa [hk] using ho
  simp[Rf,Cu,hk,hx,hw]
 ·have hx:¬l[k]=0:=by simpa [hk] using ho
  simp only[List.getD_eq_getElem?_getD] at hb ⊢;rw[hb];simp[Rf,Cu,hk,hx]
 ·simp only[List.getD_eq_getElem?_getD] at hj ⊢;rw[hj];simp[Rf,Cu]
theorem or2 (a b:Int):(eQ 2 fun k=>[a,b].getD k 0)=if a=0 then b else a:=by
 have e:List.range 2=[0,1]:=rfl;unfold eQ;rw[e];by_cases ha:a=0<;>by_cases hb:b=0<;>simp[ha,hb]
def vG (x y:Fact):Prop:=x.at_<y.at_∨(x.at_=y.at_∧x.kind<y.kind)
instance (x y:Fact):Decidable (vG x y):=by unfold vG;infer_instance
theorem agd (x y:Fact):0≤(if nu x.at_ y.at_=0 then nu x.kind y.kind else nu x.at_ y.at_)↔¬vG x y:=by
 unfold nu vG
 repeat' split
 all_goals omega
def tC (f:File)(i:Nat):Int:=
 let x:=f.facts.getD i default
 if wi x.kind 0 4=false then 1 else if aw x.at_ f.signs.length=false then 1 else if wi x.n 0 1=false then 1
 else if i=0 then 0 else if vG (f.facts.getD (i-1) default) x then 0 else 5
theorem awr (f:File)(hl:f.signs.length≤100000)(hlf:f.facts.length≤100000):ak T aaq [cD f] (.int (eQ f.facts.length (tC f))):=by
 refine .of_tree rfl ahl azo ?_;have cV:IntKind.i64.wrap ((f.signs.length:Int)-1)=(f.signs.length:Int)-1:=bD (by omega);simp[Tx];refine m9 f.facts.length (tC f) (fun k=>[.int 0,.int k]) (fun _=>[]) ?_ (fun k hk ho=>?_) (fun k hk ho hb=>?_) (fun hj=>?_)
 ·simp
 case' refine_2=>have hb:tC f k=tC f k:=rfl
 case' refine_3=>rw[hb]
 case refine_4=>simp[aeo,KI,hj]
 all_goals
  have hw:=bl hk (by omega);have hs:f.facts.getD k default=f.facts[k]:=by simp[hk]
  clear hb;generalize hX:tC f k=X at*;unfold tC at hX;simp only[hs] at hX;simp[aeo,KI,hk,cV,hw];refine⟨_,ec _ _ _,?_⟩;cases a1:wi f.facts[k].kind 0 4
  ·simp[a1] at hX ⊢
   first|exact hX|(exfalso;omega)
  simp[a1] at hX ⊢;refine⟨_,ec _ _ _,?_⟩;rw[lV] at hX;cases a2:wi f.facts[k].at_ 0 ((f.signs.length:Int)-1)
  ·simp[a2] at hX ⊢
   first|exact hX|(exfalso;omega)
  simp[a2] at hX ⊢;refine⟨_,ec _ _ _,?_⟩;cases a3:wi f.facts[k].n 0 1
  ·simp[a3] at hX ⊢
   first|exact hX|(exfalso;omega)
  simp[a3] at hX ⊢;by_cases k0:k=0
  ·subst k0;simp at hX ⊢
   first|(exfalso;omega)|done
  ·have bt:IntKind.i64.wrap ((k:Int)-1)=(k:Int)-1:=bD (by omega);have cq:((k:Int)-1).toNat=k-1:=by omega
   have kL:k-1<f.facts.length:=by omega
   simp[k0,kL] at hX;simp[k0,bt,cq,kL];refine⟨by omega,_,Vh _ _,_,Vh _ _,?_⟩;have ho:=af2 [nu f.facts[k-1].at_ f.facts[k].at_,nu f.facts[k-1].kind f.facts[k].kind] (by simp);simp only[List.length_cons,List.length_nil] at ho;rw[or2] at ho;refine⟨_,ho,?_⟩;have ha:=agd f.facts[k-1] f.facts[k];generalize (if nu f.facts[k-1].at_ f.facts[k].at_=0 then nu f.facts[k-1].kind f.facts[k].kind else nu f.facts[k-1].at_ f.facts[k].at_)=n at*;clear ho;by_cases e:vG f.facts[k-1] f.facts[k]
   ·have hn:¬0≤n:=fun h=>ha.1 h e;simp[e] at hX;simp[hn]
    first|done|(exfalso;omega)
   ·have hn:0≤n:=ha.2 e;simp[e] at hX;simp[hn]
    first|exact hX|(exfalso;omega)
def vI (f:File)(i:Nat):Int:=
 let x:=f.alters.getD i default
 if wi x.at_ ((if i=0 then 0 else(f.alters.getD (i-1) default).at_)+1) f.signs.length=false then 1 else if wi x.sum 1 1099511627776=false then 3 else 0
structure PaperOK (r:Realm) (f:File):Prop where
 full:(f.signs.length≤40∧f.alters.length≤4)∧f.acts.length≤100∧f.facts.length≤200
 bill:BillOK r f.bill
 ne:f.signs≠[]
 signs:eQ f.signs.length (yg r f)=0
 alters:eQ f.alters.length (vI f)=0
 acts:eQ f.acts.length (pZ r f)=0
 facts:eQ f.facts.length (tC f)=0
theorem awn (r:Realm)(hs:Small r)(f:File)(AN:f.OK):∃d,ak T aam [aZ r,cD f] d∧nk (PaperOK r f) d:=by
 refine ak.ex_of_tree rfl ahh azk ?_;simp[Tt];by_cases hf:(f.signs.length≤40∧f.alters.length≤4)∧f.acts.length≤100∧f.facts.length≤200
 case neg=>
  rw[if_pos (by omega)];exact .no (fun h=>hf h.full) (by decide)
 rw[if_neg (by omega)];obtain⟨d,hb,e,rfl,he⟩:=aA3 r hs f.bill;refine⟨_,hb,?_⟩;by_cases e0:e=0
 case neg=>
  simp[e0];exact .no (fun h=>e0 (he.2 h.bill)) e0
 have Gf:=he.1 e0;simp[e0];by_cases aD:f.signs=[]
 ·simp[aD];exact .no (fun h=>h.ne aD) (by decide)
 simp[aD];refine m9 f.signs.length (yg r f) (fun k=>[.int 0,.int k]) (fun _=>[]) ?_ (fun k hk ho=>?_) (fun k hk ho hb=>?_) (fun hj=>?_)
 ·simp
 ·have hw:=bl hk (by omega);simp[Rj,Cy,hk,hw];refine⟨_,adu r hs f Gf.parts k hk (by omega),?_⟩;simp[ho]
 ·simp[Rj,Cy,hk];refine⟨_,adu r hs f Gf.parts k hk (by omega),?_⟩;simp[ho];exact .no (fun h=>ho (by rw[←hb];exact h.signs)) ho
 simp[Rj,Cy];have jJ:∀k,k<f.alters.length→(∀j,j<k→vI f j=0)→IntKind.i64.wrap ((if k=0 then 0 else(f.alters.getD (k-1) default).at_)+1)=(if k=0 then 0 else(f.alters.getD (k-1) default).at_)+1:=by
  intro k hk hj;refine bD ?_;by_cases k0:k=0
  ·rw[if_pos k0];omega
  ·rw[if_neg k0];have h1:=hj (k-1) (by omega);have bt:k-1<f.alters.length:=by omega
   have h2:=(AN.2.2.1.2 _ (List.getElem_mem bt)).1;have h3:f.alters.getD (k-1) default=f.alters[k-1]:=by simp[bt]
   unfold vI at h1;rw[h3] at h1 ⊢;simp only at h1;generalize (if k-1=0 then(0:Int) else(f.alters.getD (k-1-1) default).at_)=L0 at h1;split at h1
   ·cases h1
   ·rename_i hh;simp[wi] at hh;unfold aX at h2;omega
 refine aO.scan f.alters.length (fun k=>vI f k=0) (fun k=>[.int 0,.int (if k=0 then 0 else(f.alters.getD (k-1) default).at_),.int k]) (fun _=>[]) ?_ (fun k hk oX ho=>?_) (fun k hk oX ho=>?_) (fun Ba=>?_)
 ·simp
 ·have hw:=bl hk (by omega);have hl:=jJ k hk oX;generalize hL:(if k=0 then 0 else(f.alters.getD (k-1) default).at_)=L at*;have hs:f.alters.getD k default=f.alters[k]:=by simp[hk]
  unfold vI at ho;simp only[hs,hL] at ho;simp[Rk,Cz,hk,hl];refine⟨_,ec _ _ _,?_⟩;cases a1:wi f.alters[k].at_ (L+1) f.signs.length
  ·simp[a1] at ho
  simp[a1] at ho ⊢;refine⟨_,ec _ _ _,?_⟩;simp[ho,hw]
 ·have hl:=jJ k hk oX;have A5:=M9 hk oX ho;generalize hL:(if k=0 then 0 else(f.alters.getD (k-1) default).at_)=L at*;have hs:f.alters.getD k default=f.alters[k]:=by simp[hk]
  have bad:∀e:Int,e≠0→nk (PaperOK r f) (.int e):=fun e h=>.no (fun h=>ho (by rw[←A5];exact h.alters)) h;unfold vI at ho;simp only[hs,hL] at ho;simp[Rk,Cz,hk,hl];refine⟨_,ec _ _ _,?_⟩;cases a1:wi f.alters[k].at_ (L+1) f.signs.length
  ·simp;exact bad 1 (by decide)
  simp[a1] at ho ⊢;refine⟨_,ec _ _ _,?_⟩;simp[ho];exact bad 3 (by decide)
 have Ba:=Na Ba;simp[Rk,Cz];refine⟨_,awp r hs f Gf.parts (by omega) (by omega),?_⟩;by_cases e3:eQ f.acts.length (pZ r f)=0
 case neg=>
  simp[e3];exact .no (fun h=>e3 h.acts) e3
 simp[e3];refine⟨_,awr f (by omega) (by omega),?_⟩;exact⟨_,rfl,fun h=>⟨hf,Gf,aD,hj,Ba,e3,h⟩,fun h=>h.facts⟩
end Rm
namespace Rm
open Go Go.Proofs Cx
end Rm
