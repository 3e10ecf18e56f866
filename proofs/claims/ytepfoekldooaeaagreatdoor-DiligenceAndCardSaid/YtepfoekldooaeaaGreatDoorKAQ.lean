/-
  Shared texts of this claim.
-/
import Derived.Test.YtepfoekldooaeaaGreatDoorKAP
set_option linter.unusedSimpArgs false
set_option linter.unusedVariables false
namespace Rm
open Go Go.Proofs Cx
theorem apt (c:City)(a b:Int):ao T abN [fy c,.int a,.int b] (.clo abO [.ref (.int a),.ref (.int b),.ref (fy c)]):=by
 refine .of_tree rfl ajp aDV ?_;simp[UD]
def l8 (d:Int):Int:=if 100000<d+400 then 100000 else d+400
def fT (c:City)(d:Int):Int×Int:=
 if dV d=false then(0,3) else match eA c d (l8 d-d+1).toNat with|[]=>(0,3)|x::_=>(x,0)
theorem apq {c:City}{a:Int}{k:Nat}{x:Int}(h:x∈eA c a k):a≤x∧x<a+k:=by
 unfold eA at h;obtain⟨h1,_⟩:=List.mem_filter.mp h;obtain⟨i,hi,rfl⟩:=List.mem_map.mp h1;have:=List.mem_range.mp hi;omega
theorem adC {c:City}{d:Int}(h:(fT c d).2=0):dV d=true∧d≤(fT c d).1∧(fT c d).1≤100000:=by
 unfold fT at h ⊢;cases hd:dV d
 ·simp[hd] at h
 ·simp only[hd] at h ⊢;cases hk:eA c d (l8 d-d+1).toNat with
  |nil=>rw[hk] at h;simp at h
  |cons x l=>
   have hm:x∈eA c d (l8 d-d+1).toNat:=by rw[hk];simp
   have:=apq hm;have he:l8 d≤100000:=by unfold l8;split<;>omega
   simp[dV] at hd;simp;unfold l8 at*;omega
theorem W7 (c:City)(hc:tF c)(d:Int):ao T abK [fy c,.int d] (.tup [.int (fT c d).1,.int (fT c d).2]):=by
 refine .of_tree rfl ajm aDR ?_;simp[UA];refine⟨_,yY d,?_⟩;cases hd:dV d
 ·simp[fT,hd]
 have eD:0≤d∧d≤100000:=by simpa [dV] using hd
 have hw:IntKind.i64.wrap (d+400)=d+400:=bN (by omega);have he:l8 d≤100000:=by unfold l8;split<;>omega
 simp[hd,hw];have hE:(if 100000<d+400 then D.int 100000 else D.int (d+400))=D.int (l8 d):=by unfold l8;split<;>rfl
 rw[hE];refine⟨_,apt c d (l8 d),_,_,rfl,_,apo c hc d (l8 d) eD.1 (by omega) (by omega),?_⟩;cases hk:eA c d (l8 d-d+1).toNat with
 |nil=>
  have hn:fT c d=(0,3):=by unfold fT;simp[hd,hk]
  rw[hn];refine aP.eachR [] (by simp) (fun _ vo=>vo=[.agg [.int 0],.agg [.int 0]]) ?_ (fun k x vo hx hi=>by simp at hx) (fun vo hi=>?_)
  ·simp
  ·subst hi;simp
 |cons x l=>
  have hn:fT c d=(x,0):=by unfold fT;simp[hd,hk]
  rw[hn];refine aP.eachR ((x::l).map pC) (by simp) (fun k vo=>k=0∧vo=[.agg [.int 0],.agg [.int 0]]) ?_ (fun k y vo hx hi=>?_) (fun vo hi=>?_)
  ·simp
  ·obtain⟨rfl,rfl⟩:=hi;simp at hx;subst hx;simp[aCb,SQ,pC];rfl
  ·exact absurd hi.1 (by simp)
end Rm
namespace Rm
open Go Go.Proofs Cx
def MH (o:Int)(d:Int)(h:Halt):Int:=if(h.order=o∧h.fr≤d)∧d≤h.to then h.to+1 else d
def lS (r:Realm)(o d:Int)(k:Nat):Int:=(r.halts.take k).foldl (MH o) d
theorem ahF (r:Realm)(o d:Int){k:Nat}(hk:k<r.halts.length):lS r o d (k+1)=MH o (lS r o d k) r.halts[k]:=by
 unfold lS;rw[List.take_succ_eq_append_getElem hk,List.foldl_append];rfl
def wx (r:Realm):Prop:=r.halts.length≤100000∧∀h,h∈r.halts→0≤h.fr∧h.to≤100000
theorem Uh {r:Realm}(hh:wx r)(o d:Int)(hd:d≤100001):∀k,k≤r.halts.length→d≤lS r o d k∧lS r o d k≤100001
 |0,_=>⟨by simp[lS],by simpa [lS] using hd⟩
 |k+1,hk=>by
  obtain⟨h1,h2⟩:=Uh hh o d hd k (by omega);rw[ahF r o d (by omega)];have:=hh.2 _ (List.getElem_mem (show k<r.halts.length by omega));unfold MH;split<;>omega
def v8 (r:Realm)(o:Int):Nat→Int→Int
 |0,d=>d
 |n+1,d=>if lS r o d r.halts.length=d then d else v8 r o n (lS r o d r.halts.length)
def kB (r:Realm)(o d:Int):Int:=v8 r o (100002-d).toNat d
theorem ahG {r:Realm}(hh:wx r)(o:Int):∀(n:Nat) (d:Int),d≤100001→d≤v8 r o n d∧v8 r o n d≤100001
 |0,d,hd=>⟨Int.le_refl _,hd⟩
 |n+1,d,hd=>by
  obtain⟨h1,h2⟩:=Uh hh o d hd r.halts.length (Nat.le_refl _);unfold v8;split
  ·omega
  ·have:=ahG hh o n _ h2;omega
theorem aC2 (r:Realm)(hh:wx r)(o d:Int)(h0:0≤d)(hd:d≤100001):ao T adk [bf r,.int o,.int d] (.int (kB r o d)):=by
 refine .of_tree rfl ala aFW ?_;simp[Wi];refine aP.forLoop (α:=Int×Bool×Nat) (fun s vr vo=>vr=[.int s.1,.bool s.2.1]∧vo=[]∧d≤s.1∧s.1≤100001∧(s.2.1=true→(100002-s.1).toNat≤s.2.2)∧(s.2.1=true→v8 r o s.2.2 s.1=kB r o d)∧(s.2.1=false→s.1=kB r o d)) (fun s=>2*(100001-s.1).toNat+(if s.2.1 then 1 else 0)) (d,true,(100002-d).toNat) ?_ ?_
 ·simp;exact⟨by omega,rfl⟩
 ·rintro⟨e,ch,n⟩ vr vo ⟨rfl,rfl,h1,h2,h3,h4,h5⟩;simp only at*;cases ch
  ·simp[agX,Mt];exact h5 rfl
  ·have h3:=h3 rfl;have h4:=h4 rfl;obtain⟨n,rfl⟩:∃m,n=m+1:=⟨n-1,by omega⟩
   have bE:=Uh hh o e h2;simp[agX,Mt];refine aP.forRounds r.halts.length (fun k=>[.int (lS r o e k),.bool (decide (e<lS r o e k)),.int k]) (fun _=>[]) ?_ (fun k hk=>?_) ?_
   ·simp[lS]
   ·have hw:=bj hk (by have:=hh.1;omega);have cn:=bE k (by omega);have uT:=hh.2 _ (List.getElem_mem hk);rw[ahF r o e hk];unfold MH;generalize lS r o e k=x at*;by_cases hc:(r.halts[k].order=o∧r.halts[k].fr≤x)∧x≤r.halts[k].to
    ·have cX:IntKind.i64.wrap (r.halts[k].to+1)=r.halts[k].to+1:=bN (by omega);simp[Ms,yI,hk,hw,hc,cX];omega
    ·simp[Ms,yI,hk,hw,hc]
   ·have hE:=bE r.halts.length (Nat.le_refl _);unfold v8 at h4;generalize lS r o e r.halts.length=x at*;by_cases hx:x=e
    ·rw[if_pos hx] at h4;subst hx;simp[Ms,yI];exact⟨x,by omega,rfl,h1,h2,h4⟩
    ·rw[if_neg hx] at h4;have ak:e<x:=by omega
     simp[Ms,yI,ak];exact⟨x,by omega,rfl,by omega,by omega,n,by omega,h4⟩
def v3 (r:Realm)(c:City)(o:Int):Nat→Int→Int×Int
 |0,d=>(d,0)
 |n+1,d=>
  if(fT c (kB r o d)).2≠0 then(0,3)
  else if(fT c (kB r o d)).1=kB r o d then(kB r o d,0)
  else v3 r c o n (fT c (kB r o d)).1
theorem aCV (r:Realm)(c:City)(o:Int)(n:Nat)(d:Int):v3 r c o (n+1) d=
 if(fT c (kB r o d)).2≠0 then(0,3)
 else if(fT c (kB r o d)).1=kB r o d then(kB r o d,0)
 else v3 r c o n (fT c (kB r o d)).1:=rfl
def rL (r:Realm)(city d:Int):Int×Int:=v3 r (r.cities.getD city.toNat default) (fU r city) (100002-d).toNat d
theorem ahy (r:Realm)(hh:wx r)(city d:Int)(hc:0≤city∧city<r.cities.length)(hs:∀c,c∈r.cities→tF c)(h0:0≤d)(hd:d≤100001):ao T Rc [bf r,.int city,.int d] (.tup [.int (rL r city d).1,.int (rL r city d).2]):=by
 refine .of_tree rfl ak9 aFV ?_;simp[Wh];refine⟨_,oW r city,?_⟩;have ba:city.toNat<r.cities.length:=by omega
 have hcg:r.cities.getD city.toNat default=r.cities[city.toNat]:=by simp[ba]
 have hsc:=hs _ (List.getElem_mem ba);have hF:rL r city d=v3 r r.cities[city.toNat] (fU r city) (100002-d).toNat d:=by unfold rL;rw[hcg]
 rw[hF];refine aP.forLoop (α:=Int×Nat) (fun s vr vo=>(∃a b,vr=[.int s.1,a,b])∧vo=[]∧0≤s.1∧s.1≤100001∧(100002-s.1).toNat≤s.2∧v3 r r.cities[city.toNat] (fU r city) s.2 s.1=v3 r r.cities[city.toNat] (fU r city) (100002-d).toNat d) (fun s=>s.2) (d,(100002-d).toNat) ?_ ?_
 ·simp;omega
 ·rintro⟨e,n⟩ vr vo ⟨⟨a,b,rfl⟩,rfl,h1,h2,h3,h4⟩;simp only at*;obtain⟨n,rfl⟩:∃m,n=m+1:=⟨n-1,by omega⟩
  rw[←h4];have hsk:=ahG hh (fU r city) (100002-e).toNat e h2;have hsr:=aC2 r hh (fU r city) e h1 h2;rw[aCV];change e≤kB r (fU r city) e∧kB r (fU r city) e≤100001 at hsk;generalize kB r (fU r city) e=x at*;have PJ:=W7 r.cities[city.toNat] hsc x;have pS:=adC (c:=r.cities[city.toNat]) (d:=x);generalize fT r.cities[city.toNat] x=N at*;obtain⟨y,er⟩:=N;simp only at PJ pS;simp[aCj,TI];refine⟨_,hsr,?_⟩;simp[ba,hc];refine⟨_,PJ,?_⟩;by_cases he:er=0
  ·obtain⟨g1,g2,g3⟩:=pS he;by_cases hy:y=x
   ·simp[he,hy]
   ·simp[he,hy];exact⟨y,n,by omega,rfl,by omega,by omega,by omega,rfl⟩
  ·simp[he]
end Rm
namespace Rm
open Go Go.Proofs Cx
structure RightD (r:Realm):Prop where
 small:Small r
 halts:wx r
theorem RightD.cities {r:Realm}(h:RightD r)(c:City)(hc:c∈r.cities):tF c:=by
 obtain⟨h1,h2,h3,_⟩:=h.small.city c hc;exact⟨by omega,by omega,by omega⟩
theorem Xi (d:Int)(t:Tenor):∃n e:Int,ao T adi [.int d,qP t] (.tup [.int n,.int e]):=by
 by_cases h0:t.n<0
 ·refine⟨0,3,.of_tree rfl Ev M0 ?_⟩;simp[yW,h0]
 by_cases h1:20000<t.n
 ·refine⟨0,3,.of_tree rfl Ev M0 ?_⟩;simp[yW,h0,h1]
 by_cases h2:t.unit=1
 ·obtain⟨n,e,h,_⟩:=aij d t.n;refine⟨n,e,.of_tree rfl Ev M0 ?_⟩;simp[yW,h0,h1,h2];refine⟨_,h,?_⟩;simp
 ·refine⟨IntKind.i64.wrap (d+t.n),0,.of_tree rfl Ev M0 ?_⟩;simp[yW,h0,h1,h2]
theorem alE (r:Realm)(hr:RightD r)(b:Bill)(seen:Int):∃n e:Int,ao T Is [bf r,dH b,.int seen] (.tup [.int n,.int e]):=by
 have htn:D.agg [D.int b.tenor.kind,D.int b.tenor.n,D.int b.tenor.unit]=qP b.tenor:=rfl;by_cases h0:b.tenor.kind=0
 ·refine⟨seen,0,.of_tree rfl wH yX ?_⟩;simp[tM,h0]
 by_cases h1:b.tenor.kind=1
 ·obtain⟨n,e,h⟩:=Xi seen b.tenor;refine⟨n,e,.of_tree rfl wH yX ?_⟩;have cD:(b.tenor.kind=1)=True:=eq_true h1;simp[tM,h0,cD];refine⟨_,h,?_⟩;simp
 by_cases h2:b.tenor.kind=2
 ·obtain⟨n,e,h⟩:=Xi b.day b.tenor;refine⟨n,e,.of_tree rfl wH yX ?_⟩;have kJ:(b.tenor.kind=2)=True:=eq_true h2;simp[tM,h0,h1,kJ];refine⟨_,h,?_⟩;simp
 by_cases h4:b.tenor.kind=4
 ·obtain⟨n,e,h,_⟩:=aiG r b.city b.pay (by have:=hr.small.us;omega);refine⟨IntKind.i64.wrap (b.day+n),e,.of_tree rfl wH yX ?_⟩;have oh:(b.tenor.kind=4)=True:=eq_true h4;simp[tM,h0,h1,h2,oh];refine⟨_,h,?_⟩;simp
 ·refine⟨b.tenor.n,0,.of_tree rfl wH yX ?_⟩;simp[tM,h0,h1,h2,h4]
theorem ao.ex_of_tree {tab:Nat→Option PC}{ext:Nat→Option (aU→List D→Option D)}{f:Nat}{pc:PC}{t:PT}{ds:List D}{P:D→Prop}(hx:ext f=none)(ht:tab f=some pc)(he:tree pc=t)
 (h:aI (cR tab ext) t (kH ds) (fun x=>∃d,x=.ret d∧P d)):∃d,ao (cR tab ext) f ds d∧P d:=by
 subst he;obtain⟨x,⟨d,rfl,hd⟩,n0,hn⟩:=ah2 (Lu ⟨fun _ _ _ h=>(by obtain⟨_,h,_⟩:=h;cases h),fun _ _ _ _ _ _ h=>(by obtain⟨_,h,_⟩:=h;cases h),fun _ h=>h⟩ h);exact⟨d,.of_pc hx ht ⟨.ret d,rfl,n0,hn⟩,hd⟩
def El (d:D):Prop:=∃n e:Int,d=.tup [.int n,.int e]
@[simp] theorem aJE (n e:Int):El (.tup [.int n,.int e])=True:=eq_true ⟨n,e,rfl⟩
theorem wu (r:Realm)(hr:RightD r)(b:Bill)(seen gN:Int):∃d,ao T Ir [bf r,dH b,.int seen,.int gN] d∧El d:=by
 have htn:D.agg [D.int b.tenor.kind,D.int b.tenor.n,D.int b.tenor.unit]=qP b.tenor:=rfl;have lq:=TO r hr.small;refine ao.ex_of_tree rfl Xt ahZ ?_;simp[MZ];refine⟨_,lq,?_⟩;by_cases h0:jv r=0
 case neg=>simp[h0]
 simp[h0];refine⟨_,H3 r b.city,?_⟩;cases h1:aF b.city r.cities.length
 ·simp[h1]
 simp[h1];refine⟨_,H3 r b.pay,?_⟩;cases h2:aF b.pay r.cities.length
 ·simp[h2]
 simp[h2];refine⟨_,Cj b.day,?_⟩;cases h3:dV b.day
 ·simp[h3]
 simp[h3];intro _ _ _ _;have hp:0≤b.pay∧b.pay<r.cities.length:=by simpa [aF] using h2
 have fin:0≤gN→gN≤20000→∃d,ao T Is [bf r,dH b,D.int seen] d∧
  if(d.tget 1).i=0 then ∃d1,ao T Rb [d.tget 0] d1∧(d1.b=true→IntKind.i64.wrap ((d.tget 0).i+gN)≤100000→
        ∃d2,ao T Rc [bf r,D.int b.pay,D.int (IntKind.i64.wrap ((d.tget 0).i+gN))] d2∧El (D.tup [d2.tget 0,d2.tget 1]))
  else El (D.tup [D.int 0,d.tget 1]):=by
  intro xh m0;obtain⟨n,e,h⟩:=alE r hr b seen;refine⟨_,h,?_⟩;by_cases he:e=0
  ·simp[he];refine⟨_,Cj n,?_⟩;cases hd:dV n
   ·simp[hd]
   have eD:0≤n∧n≤100000:=by simpa [dV] using hd
   have hw:IntKind.i64.wrap (n+gN)=n+gN:=bN (by omega);simp[hd,hw];intro hle;refine⟨_,ahy r hr.halts b.pay (n+gN) hp hr.cities (by omega) (by omega),?_⟩;simp
  ·simp[he]
 by_cases hs:seen=-1
 ·simp[hs] at fin ⊢;intro xh m0;refine⟨_,Ng b.tenor,?_⟩;simp;intro _;exact fin xh m0
 ·simp[hs] at fin ⊢;refine⟨_,Cj seen,?_⟩;cases hk:dV seen
  ·simp[hk]
  simp[hk];intro xh m0;exact⟨⟨_,Ng b.tenor⟩,fin xh m0⟩
noncomputable def qK (r:Realm)(b:Bill)(seen gN:Int):Int×Int:=
 open Classical in if h:RightD r then((wu r h b seen gN).choose_spec.2.choose,(wu r h b seen gN).choose_spec.2.choose_spec.choose) else(0,0)
theorem W0 (r:Realm)(hr:RightD r)(b:Bill)(seen gN:Int):ao T Ir [bf r,dH b,.int seen,.int gN] (.tup [.int (qK r b seen gN).1,.int (qK r b seen gN).2]):=by
 have h:=(wu r hr b seen gN).choose_spec.2.choose_spec.choose_spec;have h1:=(wu r hr b seen gN).choose_spec.1;rw[h] at h1;have e:qK r b seen gN=((wu r hr b seen gN).choose_spec.2.choose,(wu r hr b seen gN).choose_spec.2.choose_spec.choose):=by unfold qK;rw[dif_pos hr]
 rw[e];exact h1
noncomputable def eh (r:Realm)(forum:Int)(f:File)(day:Int):Int:=
 if(bB f day).signs=[] then-1
 else if(qK r f.bill (lP (bB f day)) (max (ru (ju r forum 6 (bB f day) day)) 0)).2≠0 then-1
 else(qK r f.bill (lP (bB f day)) (max (ru (ju r forum 6 (bB f day) day)) 0)).1
@[simp] theorem aNz (x:File)(a0 a1 a2 a3 a4 a5 a6 a7 a8 a9 iS iT iU iV iW jV jW jX kE:D):(db [a0,a1,a2,a3,a4,a5,a6,a7,a8,a9,iS,iT,iU,iV,iW,jV,jW,jX,kE] 0 [.int x.bill.drawer,.int x.bill.drawee,.int x.bill.payee,.int x.bill.sum,.int x.bill.currency,.int x.bill.tenor.kind,.int x.bill.tenor.n,.int x.bill.tenor.unit,.int x.bill.day,.int x.bill.city,.int x.bill.pay,.int x.bill.need,.int x.bill.rate,.int x.bill.flags,.int x.bill.parts,signs x.signs,alters x.alters,acts x.acts,facts x.facts])[15]?.getD D.none=signs x.signs:=_root_.id rfl
theorem W6 (r:Realm)(hr:Right r)(hd:RightD r)(forum:Int)(f:File)(day:Int)(hf:FewS f):ao T abC [bf r,.int forum,cm f,.int day] (.int (eh r forum f day)):=by
 refine .of_tree rfl ajg aDA ?_;simp[Ut];refine⟨_,TQ f day (by have:=hf.signs;omega) (by have:=hf.acts;omega) (by have:=hf.alters;omega) (by have:=hf.facts;omega),?_⟩;have hg:=hf.at_ day;have hb:(bB f day).bill=f.bill:=rfl;unfold eh;generalize bB f day=g at*;simp;by_cases h0:g.signs=[]
 ·simp[h0]
 simp[h0];refine⟨_,Xo r hr forum 6 g day hg,_,ai6 _,_,ag3 g (by have:=hg.signs;omega) (by have:=hg.acts;omega),?_⟩;have hm:(if(D.int (ru (ju r forum 6 g day))).i<0 then D.int 0 else D.int (ru (ju r forum 6 g day)))=D.int (max (ru (ju r forum 6 g day)) 0):=by
  simp only[GS];split
  ·rw[Int.max_eq_right (by omega)]
  ·rw[Int.max_eq_left (by omega)]
 rw[hm,hb];refine⟨_,W0 r hd f.bill _ _,?_⟩;by_cases he:(qK r f.bill (lP g) (max (ru (ju r forum 6 g day)) 0)).2=0<;>simp[he]
end Rm
namespace Rm
open Go Go.Proofs Cx
end Rm
namespace Rm
open Go Go.Proofs Cx
theorem OH {n:Nat}{f:Nat→Int}(h:ff n f=0)(k:Nat)(hk:k<n):f k=0:=YB.1 h k hk
theorem ao2 {r:Realm}(h:jv r=0)(k:Nat)(hk:k<r.orders.length):oN r.orders[k]=true:=by
 unfold jv at h;rw[Ub] at h;have h1:=h (eB (ei r) 20 (mI r)) (by simp);unfold eB at h1;split at h1
 ·cases h1
 have h2:=OH h1 k (by simpa [ei] using hk);have h3:=(Bc h2).2;unfold mI at h3;simpa [hk] using h3
theorem auy {r:Realm}(hs:Small r)(h:jv r=0):y5 r:=by
 intro o ho;obtain⟨k,hk,rfl⟩:=List.getElem_of_mem ho;have h1:=ao2 h k hk;obtain⟨hc,_⟩:=hs.order _ ho;refine⟨by omega,fun ch pM=>?_⟩;unfold oN at h1;simp only[Bool.and_eq_true] at h1;obtain⟨j,hj,rfl⟩:=List.getElem_of_mem pM;have h2:=wA.1 h1.1 j hj;simpa [aF,hj] using h2
theorem auz {r:Realm}(hs:Small r)(h:jv r=0):wx r:=by
 refine⟨by have:=hs.halts;omega,fun x hx=>?_⟩;obtain⟨k,hk,rfl⟩:=List.getElem_of_mem hx;unfold jv at h;rw[Ub] at h;have h1:=h (nE r) (by simp);unfold nE at h1;split at h1
 ·cases h1
 split at h1
 ·cases h1
 split at h1
 ·cases h1
 split at h1
 ·rename_i aR;have h2:=wA.1 aR k hk;simp[sq,wi,aF,hk] at h2;omega
 ·cases h1
structure Good (r:Realm) (f:File):Prop where
 right:Right r
 rightD:RightD r
 few:FewS f
theorem YQ {r:Realm}{f:File}(hr:r.OK)(h:uo r f=true):Good r f:=by
 unfold uo oc at h;simp only[Bool.and_eq_true,decide_eq_true_eq] at h;obtain⟨⟨⟨h1,h2⟩,h3⟩,h4⟩:=h;have hs:=OE hr h1;refine⟨⟨auy hs h4,by have:=hs.orders;omega,fun o ho=>?_⟩,⟨hs,auz hs h4⟩,?_⟩
 ·have:=hs.order o ho;refine⟨?_,by omega⟩;exact hr.2.2.2.2.1.2 o ho
 ·simp[wT] at h2;exact⟨by omega,by omega,by omega,by omega⟩
theorem aqU {r:Realm}{f:File}(h:uo r f=true):f.facts.length≤220:=by
 unfold uo oc at h;simp only[Bool.and_eq_true,decide_eq_true_eq] at h;have:=h.1.1.2;simp[wT] at this;omega
end Rm
namespace Rm
open Go Go.Proofs Cx
def gW (a b:Cell):Prop:=a.known=true→b=a
theorem gW.rfl' (a:Cell):gW a a:=fun _=>rfl
theorem gW.no (b:Cell):gW dm b:=fun h=>by cases h
def pk (l l':List Cell):Prop:=l.length=l'.length∧∀i,gW (aL l i) (aL l' i)
theorem XS {α:Type}(f:α→Cell)(l:List α)(i:Nat)(hi:i<l.length):aL (l.map f) i=f l[i]:=by
 simp[aL,hi]
theorem XT (l:List Cell)(i:Nat)(hi:l.length≤i):aL l i=default:=by
 simp[aL,hi]
theorem pk.map {α:Type}{f g:α→Cell}{l:List α}(h:∀a,a∈l→gW (f a) (g a)):pk (l.map f) (l.map g):=by
 refine⟨by simp,fun i=>?_⟩;by_cases hi:i<l.length
 ·rw[XS f l i hi,XS g l i hi];exact h _ (List.getElem_mem hi)
 ·rw[XT _ i (by simpa using hi),XT _ i (by simpa using hi)];exact .rfl' _
theorem aGw {cs fO:List Cell}(h:pk cs fO)(v:Int):gW (jr cs v) (jr fO v):=by
 intro hk;have hv:=h.2 v.toNat;unfold jr at hk ⊢;unfold cellAt at hk ⊢;unfold aL at hv;by_cases h1:cs.length≤v.toNat∨(cs.getD v.toNat default).known=false
 ·rw[if_pos h1] at hk;cases hk
 ·have h2:(cs.getD v.toNat default).known=true:=by
   cases e:(cs.getD v.toNat default).known
   ·exact absurd (.inr e) h1
   ·rfl
  rw[hv h2,←h.1]
theorem X0 {l l':List Cell}(h:pk l l')(op:Int):gW (fc op l) (fc op l'):=by
 intro hk;have h0:=h.2 0;have h1:=h.2 1;have h2:=h.2 2;unfold fc at hk ⊢;by_cases o3:op=3
 ·rw[if_pos o3] at hk ⊢;rw[if_pos o3];cases e:(aL l 0).known
  ·rw[e] at hk;cases hk
  ·rw[h0 e,e]
 rw[if_neg o3] at hk ⊢;rw[if_neg o3];by_cases o4:(op=4∨op=5)∧(aL l 0=dF (decide (op=5))∨aL l 1=dF (decide (op=5)))
 ·have o4':(op=4∨op=5)∧(aL l' 0=dF (decide (op=5))∨aL l' 1=dF (decide (op=5))):=by
   refine⟨o4.1,?_⟩;have hy:∀b,(dF b).known=true:=fun b=>by cases b<;>rfl
   rcases o4.2 with e|e
   ·exact .inl ((h0 (by rw[e];exact hy _)).trans e)
   ·exact .inr ((h1 (by rw[e];exact hy _)).trans e)
  rw[if_pos o4,if_pos o4']
 rw[if_neg o4] at hk ⊢;by_cases o6:op=6
 ·have o5:¬((op=4∨op=5)∧(aL l' 0=dF (decide (op=5))∨aL l' 1=dF (decide (op=5)))):=by omega
  rw[if_pos o6] at hk ⊢;rw[if_neg o5,if_pos o6];by_cases e:(aL l 1).known=true∧aL l 1=aL l 2
  ·have e1:=h1 e.1;have e2:=h2 (by rw[←e.2];exact e.1);rw[if_pos e,e1,e2,if_pos e]
  ·rw[if_neg e] at hk;cases hk
 rw[if_neg o6] at hk ⊢;by_cases ok:(aL l 0).known=false∨(aL l 1).known=false
 ·rw[if_pos ok] at hk;cases hk
 have k0:(aL l 0).known=true:=by cases e:(aL l 0).known<;>simp[e] at ok ⊢
 have k1:(aL l 1).known=true:=by cases e:(aL l 1).known<;>simp[e] at ok ⊢
 rw[h0 k0,h1 k1,if_neg o4,if_neg o6]
theorem Yq:∀{L:Nat} {t:Tm} {k:Int} {cs fO:List Cell},pk cs fO→bR L t=(k,0)→gW (bl L cs t) (bl L fO t)
 |0,t,k,cs,fO,hc,h=>.no _
 |L+1,t,k,cs,fO,hc,h=>by
  obtain⟨hn,hk⟩:=GM h;obtain⟨ha,_⟩:=GL h;have ih:∀a,a∈t.args→gW (bl L cs a) (bl L fO a):=fun a hm=>Yq hc (show bR L a=((bR L a).1,0) by rw[←ha a hm]);have ir:∀(c:List Cell) a,a∈t.args→rR (bR L a).1 (bl L c a):=fun c a hm=>OD c (show bR L a=((bR L a).1,0) by rw[←ha a hm]);have im:=pk.map ih;rw[wS,wS];by_cases o0:t.op=0∨t.op=1
  ·rw[if_pos o0,if_pos o0];exact .rfl' _
  rw[if_neg o0,if_neg o0];by_cases o2:t.op=2
  ·rw[if_pos o2,if_pos o2];exact aGw hc _
  rw[if_neg o2,if_neg o2];by_cases o6:t.op=6
  ·cases hn with
   |ite k h0 cn=>
    obtain⟨a,b,c,hl,e1,e2,e3⟩:=If cn;rw[hl] at ih ir im ⊢;have r1:=ir fO a (by simp);rw[e1] at r1;have m1:=ih a (by simp);have m2:=ih b (by simp);have m3:=ih c (by simp);by_cases g:t.op=6∧(aL ([a,b,c].map (bl L cs)) 0).known=true
    ·have e:aL ([a,b,c].map (bl L fO)) 0=aL ([a,b,c].map (bl L cs)) 0:=im.2 0 g.2;have g':t.op=6∧(aL ([a,b,c].map (bl L fO)) 0).known=true:=⟨g.1,by rw[e];exact g.2⟩
     rw[if_pos g,if_pos g',e];exact im.2 _
    rw[if_neg g];by_cases g':t.op=6∧(aL ([a,b,c].map (bl L fO)) 0).known=true
    ·rw[if_pos g'];intro ou;unfold fc at ou ⊢;rw[if_neg (by omega),if_neg (by omega),if_pos o6] at ou ⊢;simp only[List.map_cons,List.map_nil,aL,List.getD_cons_zero,List.getD_cons_succ] at ou g' ⊢;by_cases e:(bl L cs b).known=true∧bl L cs b=bl L cs c
     ·rw[if_pos e];have q1:=m2 e.1;have q2:=m3 (by rw[←e.2];exact e.1);rcases(r1.2 g'.2).1 rfl with h1|h1<;>rw[h1]
      ·show bl L fO c=_;rw[q2,e.2]
      ·show bl L fO b=_;exact q1
     ·rw[if_neg e] at ou;cases ou
    ·rw[if_neg g'];exact X0 im _
   |_=>omega
  ·rw[if_neg (by omega),if_neg (by omega)];exact X0 im _
theorem aqO {cs fO:List Cell}(h:pk cs fO)(t:Tm):gW (pE cs t) (pE fO t):=by
 unfold pE;by_cases e:(l7 t).2=0
 ·rw[if_pos e,if_pos e];exact Yq h (XU e).2
 ·rw[if_neg e];exact .no _
theorem ai1 {cs fO:List Cell}(h:pk cs fO)(o:Order)(ask:Int):gW (kF o ask cs).1 (kF o ask fO).1∧(kF o ask fO).2=(kF o ask cs).2:=by
 unfold kF;by_cases e:(findF o ask).2≠0
 ·rw[if_pos e,if_pos e];exact⟨.rfl' _,rfl⟩
 rw[if_neg e,if_neg e];refine⟨?_,rfl⟩;intro hk;have hm:=aqO h (findF o ask).1;simp only at hk ⊢;cases e2:(pE cs (findF o ask).1).known
 ·rw[e2] at hk;simp[e2] at hk
 ·rw[hm e2,e2]
structure SameF (f g:File):Prop where
 bill:g.bill=f.bill
 signs:g.signs=f.signs
 alters:g.alters=f.alters
 acts:g.acts=f.acts
theorem SameF.at_ {f g:File}(h:SameF f g)(day:Int):SameF (bB f day) (bB g day):=by
 obtain⟨h1,h2,h3,h4⟩:=h;constructor<;>simp[bB,h1,h2,h3,h4]
def eY (c:Case)(g:File):Case:={c with file:=g}
theorem ahl {c:Case}{g:File}(h:SameF c.file g)(r:Realm)(s:Sign)(i:Nat):aL (jA r (eY c g) s) i=
 if i=15 then br g 0 c.sign else if i=16 then br g 1 c.sign else if i=17 then br g 2 c.sign else if i=18 then br g 3 (dX c) else if i=19 then br g 4 (dX c) else aL (jA r c s) i:=by
 obtain⟨h1,h2,h3,h4⟩:=h
 have e:(jA r (eY c g) s)=(jS c s).map (fun p=>⟨true,p.2⟩)++(ky r c s).map (fun p=>dF p.2)++
  [br g 0 c.sign,br g 1 c.sign,br g 2 c.sign,br g 3 (dX c),br g 4 (dX c)]:=by
  simp[jA,eY,jS,ky,dX,wC,h1,h3,vb];exact⟨rfl,rfl,rfl,rfl⟩
 rw[e];unfold jA jS ky;rcases i with _|_|_|_|_|_|_|_|_|_|_|_|_|_|_|_|_|_|_|_|i<;>simp[aL]
theorem aCN {c:Case}{g:File}(h:SameF c.file g)(r:Realm):(dE r (eY c g)=[]↔dE r c=[]):=by
 obtain⟨h1,h2,h3,h4⟩:=h;have e1:gk (eY c g)=gk c:=by simp[gk,eY,h2,dX];rfl
 unfold dE;rw[e1];simp only[eY,h2];split
 ·simp[jA,jS]
 ·simp
def W2 (f g:File)(s h:Int):Prop:=(∀k,gW (br f k s) (br g k s))∧(∀k,gW (br f k h) (br g k h))
theorem aGz {c:Case}{g:File}(h:SameF c.file g)(hf:W2 c.file g c.sign (dX c))(r:Realm):pk (dE r c) (dE r (eY c g)):=by
 have e1:gk (eY c g)=gk c:=by simp[gk,eY,h.signs,dX];rfl
 unfold dE;rw[e1];simp only[show(eY c g).file.signs=c.file.signs from h.signs,show(eY c g).sign=c.sign from rfl];split
 ·generalize c.file.signs.getD c.sign.toNat default=s;refine⟨by simp[jA,jS,ky],fun i=>?_⟩;rw[ahl h r s i];have hs:∀j,j=15∨j=16∨j=17∨j=18∨j=19∨(j≠15∧j≠16∧j≠17∧j≠18∧j≠19):=by omega
  rcases hs i with e|e|e|e|e|⟨a,b,c',d,e⟩
  ·subst e;exact hf.1 0
  ·subst e;exact hf.1 1
  ·subst e;exact hf.1 2
  ·subst e;exact hf.2 3
  ·subst e;exact hf.2 4
  ·rw[if_neg a,if_neg b,if_neg c',if_neg d,if_neg e];exact .rfl' _
 ·exact⟨rfl,fun i=>.rfl' _⟩
theorem ahm {c:Case}{g:File}(h:SameF c.file g)(r:Realm)(forum:Int):fV r forum (eY c g)=fV r forum c:=by
 obtain⟨h1,h2,h3,h4⟩:=h;simp[fV,lg,jj,eY,cV,h1,h2]
theorem IA (c:Case)(g:File):aK (eY c g)=eY (aK c) (bB g c.day):=rfl
theorem ai9 (r:Realm)(forum q:Int){c:Case}{g:File}(h:SameF c.file g)(hf:W2 (bB c.file c.day) (bB g c.day) c.sign (dX c)):
 gW (dv r forum q c).cell (dv r forum q (eY c g)).cell∧(dv r forum q (eY c g)).err=(dv r forum q c).err:=by
 have hs:=h.at_ c.day;have hv:=aGz (c:=aK c) hs hf r;have he:=aCN (c:=aK c) hs r;have hp:=ahm (c:=aK c) hs r forum;have e1:(ew r forum q (eY c g)).1=(ew r forum q c).1:=by
  unfold ew;rw[IA];rw[hp];by_cases e:dE r (aK c)=[]
  ·rw[if_pos e,if_pos (he.2 e)]
  ·rw[if_neg e,if_neg (fun x=>e (he.1 x))];split
   ·rfl
   split
   ·rfl
   rfl
 have e2:pk (ew r forum q c).2 (ew r forum q (eY c g)).2:=by
  unfold ew;rw[IA];rw[hp];by_cases e:dE r (aK c)=[]
  ·rw[if_pos e,if_pos (he.2 e)];exact⟨rfl,fun i=>.rfl' _⟩
  ·rw[if_neg e,if_neg (fun x=>e (he.1 x))];split
   ·exact⟨rfl,fun i=>.rfl' _⟩
   split
   ·exact⟨rfl,fun i=>.rfl' _⟩
   exact hv
 unfold dv;rw[e1];split
 ·exact⟨.rfl' _,rfl⟩
 ·exact ai1 e2 _ _
theorem aGf {a b:Said}(h:gW a.cell b.cell)(he:b.err=a.err)(hn:iM a≠2):iM b=iM a:=by
 unfold iM at*;rw[he];split
 ·rfl
 ·rename_i e;rw[if_neg e] at hn;cases hk:a.cell.known
  ·rw[hk] at hn;simp at hn
  ·rw[h hk,hk]
end Rm
namespace Rm
open Go Go.Proofs Cx
def qE (f g:File)(s:Int):Prop:=∀k,br g k s=br f k s
theorem GY (f:File)(day k s:Int):br (bB f day) k s=if aF s (qy day f.signs).length=true then br f k s else dm:=by
 unfold br;have h:(bB f day).facts.find? (dI k s)=if aF s (qy day f.signs).length=true then f.facts.find? (dI k s) else none:=by
  show(f.facts.filter (j0 (qy day f.signs).length)).find? (dI k s)=_;generalize (qy day f.signs).length=n
  induction f.facts with
  |nil=>simp
  |cons x l ih=>
   by_cases hx:dI k s x=true
   ·have hs:x.at_=s:=by simp[dI] at hx;exact hx.2
    by_cases hn:aF s n=true
    ·have:j0 n x=true:=by unfold j0;rw[hs];exact hn
     simp[List.filter_cons,this,hx,hn]
    ·have:¬j0 n x=true:=by unfold j0;rw[hs];exact hn
     simp only[List.filter_cons,if_neg this,ih,if_neg hn]
   ·by_cases hn:j0 n x=true
    ·simp[List.filter_cons,hn,hx,ih]
    ·simp[List.filter_cons,hn,hx,ih]
 rw[h];by_cases hn:aF s (qy day f.signs).length=true
 ·rw[if_pos hn,if_pos hn]
 ·rw[if_neg hn,if_neg hn]
theorem qE.at_ {f g:File}{s:Int}(h:qE f g s)(hs:g.signs=f.signs)(day:Int):qE (bB f day) (bB g day) s:=by
 intro k;rw[GY,GY,hs,h k]
theorem aoW {l l':List Cell}(h:l.length=l'.length)(hc:∀i,aL l i=aL l' i):l=l':=by
 refine List.ext_getElem h fun i h1 h2=>?_;have:=hc i;simpa [aL,h1,h2] using this
theorem ajc (r:Realm)(forum q:Int){c:Case}{g:File}(h:SameF c.file g)(hf:qE (bB c.file c.day) (bB g c.day) c.sign)(hh:c.holder=c.sign):
 dv r forum q (eY c g)=dv r forum q c:=by
 have hs:=h.at_ c.day;have hv:dE r (aK (eY c g))=dE r (aK c):=by
  rw[IA];have e1:gk (eY (aK c) (bB g c.day))=gk (aK c):=by simp[gk,eY,aK,hs.signs,dX];rfl
  unfold dE;rw[e1];simp only[show(eY (aK c) (bB g c.day)).file.signs=(aK c).file.signs from hs.signs,show(eY (aK c) (bB g c.day)).sign=(aK c).sign from rfl];by_cases hc:gk (aK c)=true∧aF ((aK c).file.signs.getD (aK c).sign.toNat default).day 100001=true
  ·rw[if_pos hc,if_pos hc];have h0:0≤c.sign:=by
        have h1:=hc.1;unfold gk aF at h1;simp only[Bool.and_eq_true,decide_eq_true_eq] at h1;exact h1.1.1.1.1
   have hold:dX (aK c)=c.sign:=by unfold dX;rw[if_neg (by show ¬c.holder<0;omega)];exact hh
   generalize (aK c).file.signs.getD (aK c).sign.toNat default=s;refine aoW (by simp[jA,jS,ky]) fun i=>?_;have e:=ahl (c:=aK c) hs r s i;rw[e,hold];have q:aL (jA r (aK c) s) 15=br (bB c.file c.day) 0 c.sign∧aL (jA r (aK c) s) 16=br (bB c.file c.day) 1 c.sign∧aL (jA r (aK c) s) 17=br (bB c.file c.day) 2 c.sign∧aL (jA r (aK c) s) 18=br (bB c.file c.day) 3 c.sign∧aL (jA r (aK c) s) 19=br (bB c.file c.day) 4 c.sign:=by
        refine⟨rfl,rfl,rfl,?_,?_⟩
        ·show br _ 3 (dX (aK c))=_;rw[hold];rfl
        ·show br _ 4 (dX (aK c))=_;rw[hold];rfl
   obtain⟨q0,q1,q2,q3,q4⟩:=q;show(if i=15 then br _ 0 c.sign else if i=16 then br _ 1 c.sign else if i=17 then br _ 2 c.sign else _)=_;rw[hf 0,hf 1,hf 2,hf 3,hf 4];split
   ·rename_i h;rw[h,q0]
   split
   ·rename_i h;rw[h,q1]
   split
   ·rename_i h;rw[h,q2]
   split
   ·rename_i h;rw[h,q3]
   split
   ·rename_i h;rw[h,q4]
   rfl
  ·rw[if_neg hc,if_neg hc]
 have hp:=ahm (c:=aK c) hs r forum;unfold dv ew;rw[hv];rw[IA,hp]
theorem N5 (r:Realm)(forum q:Int){f g:File}(h:SameF f g)(day:Int):ju r forum q g day=ju r forum q f day:=by
 obtain⟨h1,h2,h3,h4⟩:=h;unfold ju;rw[show({g with facts:=[]}:File)={f with facts:=[]} by rw[h1,h2,h3,h4]]
theorem Ua {f g:File}(h:SameF f g):lP g=lP f:=by
 obtain⟨h1,h2,h3,h4⟩:=h;have e:qu g=qu f:=by funext a;unfold qu;rw[h1]
 unfold lP lQ kz;rw[h4,h2,e,h1]
theorem QP (r:Realm)(forum:Int){f g:File}(h:SameF f g)(day:Int):eh r forum g day=eh r forum f day:=by
 have ha:=h.at_ day;unfold eh;rw[ha.signs,h.bill,Ua ha,N5 r forum 6 ha]
end Rm
namespace Rm
open Go Go.Proofs Cx
theorem aBN (f:File)(kind sign:Int)(hl:f.facts.length≤4294967295):ao T acE [cm f,.int kind,.int sign] (cG (br f kind sign)):=by
 refine .of_tree rfl akq aE9 ?_;simp[VA];refine .scan f.facts.length (fun k=>dI kind sign (f.facts.getD k default)=false) (fun k=>[.int k]) (fun _=>[cG dm]) ?_ (fun k hk hj ho=>?_) (fun k hk hj ho=>?_) (fun hj=>?_)
 ·simp
 ·have hw:=bj hk (by omega);simp[hk,dI] at ho;by_cases h1:f.facts[k].kind=kind<;>by_cases h2:f.facts[k].at_=sign
  ·exact absurd h2 (ho h1)
  all_goals simp[Mh,yD,hk,hw,h1,h2]
 ·have hf:br f kind sign=dF (decide (f.facts[k].n≠0)):=by
   unfold br;rw[uj hk (by simpa [hk] using ho) (fun j bF=>by have:=hj j bF;simpa [show j<f.facts.length by omega] using this)]
  simp[hk,dI] at ho;by_cases hn:f.facts[k].n=0
  ·simp[Mh,yD,hk,ho,hf,hn];rfl
  ·simp[Mh,yD,hk,ho,hf,hn];rfl
 ·have hf:br f kind sign=dm:=by
   unfold br;rw[wV (fun j bF=>by have:=hj j bF;simpa [bF] using this)]
  simp[Mh,yD,hf]
def fm (x y:Fact):Bool:=decide (y.at_<x.at_)||(decide (y.at_=x.at_)&&decide (y.kind<x.kind))
def gl (x y:Fact):Bool:=decide (x.at_<y.at_)||(decide (y.at_=x.at_)&&decide (x.kind<y.kind))
def pg (l:List Fact)(x:Fact):List Fact:=l.filter (fm x)++[x]++l.filter (gl x)
def iP (f:File)(x:Fact):File:=if(br f x.kind x.at_).known=true then f else {f with facts:=pg f.facts x}
@[simp] theorem aOd (a0 a1 a2 a3 a4 a5 a6 a7 a8 a9 iS iT iU iV iW jV jW jX kE x:D):db [a0,a1,a2,a3,a4,a5,a6,a7,a8,a9,iS,iT,iU,iV,iW,jV,jW,jX,kE] 18 [x]=[a0,a1,a2,a3,a4,a5,a6,a7,a8,a9,iS,iT,iU,iV,iW,jV,jW,jX,x]:=_root_.id rfl
@[simp] theorem aNp:D.none.cells=[D.none]:=_root_.id rfl
theorem aiJ (f:File)(x:Fact)(hl:f.facts.length≤100000):ao T acG [cm f,pD x] (cm (iP f x)):=by
 refine .of_tree rfl aks aFb ?_;simp[VC];refine⟨_,aBN f x.kind x.at_ (by omega),?_⟩;unfold iP;cases hk:(br f x.kind x.at_).known
 case true=>simp[hk]
 simp[hk];refine aP.forRounds f.facts.length (fun k=>[.none,.int k]) (fun k=>[facts ((f.facts.take k).filter (fm x))]) ?_ (fun k hk=>?_) ?_
 ·simp[facts]
 ·have hw:=bj hk (by omega);rw[v9 (fm x) f.facts hk];have hlen:((f.facts.take k).filter (fm x)).length≤k:=Nat.le_trans (List.length_filter_le _ _) (by simp;omega);generalize (f.facts.take k).filter (fm x)=A at*;cases hd:fm x f.facts[k]
  ·simp[fm] at hd;by_cases h2:f.facts[k].at_=x.at_
   ·simp[Mi,yE,hk,hw,hd,h2];intro h;have:=hd.2 h2;omega
   ·simp[Mi,yE,hk,hw,hd,h2];intro h;omega
  ·simp[fm] at hd;simp[Mi,yE,hk,hw,hd];exact⟨by omega,by simp[facts]⟩
 ·have mi:=List.length_filter_le (fm x) f.facts;simp[Mi,yE];refine⟨by omega,?_⟩;refine aP.forRounds f.facts.length (fun k=>[.none,.int k]) (fun k=>[facts (f.facts.filter (fm x)++[x]++(f.facts.take k).filter (gl x))]) ?_ (fun k hk=>?_) ?_
  ·simp[facts]
  ·have hw:=bj hk (by omega);rw[v9 (gl x) f.facts hk];have hlen:((f.facts.take k).filter (gl x)).length≤k:=Nat.le_trans (List.length_filter_le _ _) (by simp;omega);generalize (f.facts.take k).filter (gl x)=A at*;generalize f.facts.filter (fm x)=B at*;cases hd:gl x f.facts[k]
   ·simp[gl] at hd;by_cases h2:f.facts[k].at_=x.at_
    ·simp[Mj,yF,hk,hw,hd,h2];intro h;have:=hd.2 h2;omega
    ·simp[Mj,yF,hk,hw,hd,h2];intro h;omega
   ·simp[gl] at hd;simp[Mj,yF,hk,hw,hd];exact⟨by omega,by simp[facts]⟩
  ·simp[Mj,yF];have e:f.facts.filter (fm x)++x::f.facts.filter (gl x)=pg f.facts x:=by unfold pg;simp
   have e2:f.facts.filter (fm x)++[x]++f.facts.filter (gl x)=pg f.facts x:=rfl;simp only[e,e2];generalize pg f.facts x=L;rfl
end Rm
namespace Rm
open Go Go.Proofs Cx
theorem G0 {α:Type}{p q:α→Bool}(h:∀y,p y=true→q y=true)(l:List α):(l.filter q).find? p=l.find? p:=by
 induction l with
 |nil=>rfl
 |cons y l ih=>
  cases hq:q y
  ·have hp:p y=false:=by
        cases e:p y
        ·rfl
        ·rw[h y e] at hq;cases hq
   rw[List.filter_cons,if_neg (by simp[hq]),ih,List.find?_cons,hp]
  ·rw[List.filter_cons,if_pos hq,List.find?_cons,List.find?_cons,ih]
theorem G1 {α:Type}{p q:α→Bool}(h:∀y,p y=true→q y=false)(l:List α):(l.filter q).find? p=none:=by
 rw[List.find?_eq_none];intro y hy hp;have:=(List.mem_filter.mp hy).2;rw[h y hp] at this;cases this
theorem aGJ (f:File)(x:Fact):SameF f (iP f x):=by
 unfold iP;split<;>exact⟨rfl,rfl,rfl,rfl⟩
theorem aGG (f:File)(x:Fact)(k s:Int):gW (br f k s) (br (iP f x) k s):=by
 unfold iP;by_cases hk:(br f x.kind x.at_).known=true
 ·rw[if_pos hk];exact .rfl' _
 rw[if_neg hk];by_cases e:k=x.kind∧s=x.at_
 ·obtain⟨rfl,rfl⟩:=e;intro h;exact absurd h hk
 ·intro _;have hx:dI k s x=false:=by
   cases h:dI k s x
   ·rfl
   ·simp[dI] at h;exact absurd ⟨h.1.symm,h.2.symm⟩ e
  have hf:(pg f.facts x).find? (dI k s)=f.facts.find? (dI k s):=by
   unfold pg;rw[List.append_assoc,List.find?_append,List.find?_append];have h1:[x].find? (dI k s)=none:=by simp[hx]
   rw[h1];have key:∀y,dI k s y=true→y.kind=k∧y.at_=s:=fun y hy=>by simpa [dI] using hy
   by_cases ak:s<x.at_∨(s=x.at_∧k<x.kind)
   ·rw[G0 (q:=fm x) (fun y hy=>by obtain⟨rfl,rfl⟩:=key y hy;simpa [fm] using ak),G1 (q:=gl x) (fun y hy=>by obtain⟨rfl,rfl⟩:=key y hy;simp[gl];omega)];cases f.facts.find? (dI k s)<;>rfl
   ·rw[G1 (q:=fm x) (fun y hy=>by obtain⟨rfl,rfl⟩:=key y hy;simp[fm];omega),G0 (q:=gl x) (fun y hy=>by obtain⟨rfl,rfl⟩:=key y hy;simp[gl];omega)];rfl
  unfold br;rw[hf]
theorem aGF (l:List Fact)(x:Fact):(pg l x).length≤l.length+1:=by
 have h:(l.filter (fm x)).length+(l.filter (gl x)).length≤l.length:=by
  induction l with
  |nil=>simp
  |cons y l ih=>
   have hd:¬(fm x y=true∧gl x y=true):=by simp[fm,gl];omega
   cases h1:fm x y<;>cases h2:gl x y<;>simp[h1,h2] at hd ⊢<;>omega
 unfold pg;simp;omega
theorem aGH (f:File)(x:Fact):(iP f x).facts.length≤f.facts.length+1:=by
 unfold iP;split
 ·omega
 ·exact aGF _ _
structure MoreF (f g:File):Prop where
 same:SameF f g
 le:∀k s,gW (br f k s) (br g k s)
theorem MoreF.rfl' (f:File):MoreF f f:=⟨⟨rfl,rfl,rfl,rfl⟩,fun _ _=>.rfl' _⟩
theorem MoreF.with_ {f g:File}(h:MoreF f g)(x:Fact):MoreF f (iP g x):=by
 obtain⟨⟨h1,h2,h3,h4⟩,hl⟩:=h;obtain⟨k1,k2,k3,k4⟩:=aGJ g x;refine⟨⟨k1.trans h1,k2.trans h2,k3.trans h3,k4.trans h4⟩,fun k s hk=>?_⟩;have e:=hl k s hk;rw[aGG g x k s (by rw[e];exact hk),e]
theorem MoreF.at_ {f g:File}(h:MoreF f g)(day:Int):MoreF (bB f day) (bB g day):=by
 refine⟨h.same.at_ day,fun k s=>?_⟩;rw[GY,GY,h.same.signs];split
 ·exact h.le k s
 ·exact .no _
end Rm
namespace Rm
open Go Cx
structure Kept where
 shown:Int
 protest:Int
 notice:Int
 all_:Int
 deriving DecidableEq,Inhabited
def nZ (x:Kept):D:=.agg [.int x.shown,.int x.protest,.int x.notice,.int x.all_]
@[simp] theorem aIL (x:Kept):(nZ x).cells=[.int x.shown,.int x.protest,.int x.notice,.int x.all_]:=_root_.id rfl
@[simp] theorem aNa (x:Kept):D.agg [.int x.shown,.int x.protest,.int x.notice,.int x.all_]=nZ x:=_root_.id rfl
@[simp] theorem aJW (x:Kept):gi 4 (nZ x)=nZ x:=_root_.id rfl
@[simp] theorem aIH (x:Kept):(nZ x).c 0=.int x.shown:=_root_.id rfl
@[simp] theorem aII (x:Kept):(nZ x).c 1=.int x.protest:=_root_.id rfl
@[simp] theorem aIJ (x:Kept):(nZ x).c 2=.int x.notice:=_root_.id rfl
@[simp] theorem aIK (x:Kept):(nZ x).c 3=.int x.all_:=_root_.id rfl
end Rm
namespace Rm
open Go Go.Proofs Cx
structure DView where
 realm:Realm
 forum:Int
 file:File
 sign:Int
 day:Int
 due:Int
 deriving Inhabited
def bY (x:DView):D:=.agg [strs x.realm.currencies,lj x.realm.cities,groups x.realm.groups,firms x.realm.firms,orders x.realm.orders,usances x.realm.usances,rates x.realm.rates,halts x.realm.halts,.int x.forum,.int x.file.bill.drawer,.int x.file.bill.drawee,.int x.file.bill.payee,.int x.file.bill.sum,.int x.file.bill.currency,.int x.file.bill.tenor.kind,.int x.file.bill.tenor.n,.int x.file.bill.tenor.unit,.int x.file.bill.day,.int x.file.bill.city,.int x.file.bill.pay,.int x.file.bill.need,.int x.file.bill.rate,.int x.file.bill.flags,.int x.file.bill.parts,signs x.file.signs,alters x.file.alters,acts x.file.acts,facts x.file.facts,.int x.sign,.int x.day,.int x.due]
@[simp] theorem aIh (x:DView):(bY x).cells=[strs x.realm.currencies,lj x.realm.cities,groups x.realm.groups,firms x.realm.firms,orders x.realm.orders,usances x.realm.usances,rates x.realm.rates,halts x.realm.halts,.int x.forum,.int x.file.bill.drawer,.int x.file.bill.drawee,.int x.file.bill.payee,.int x.file.bill.sum,.int x.file.bill.currency,.int x.file.bill.tenor.kind,.int x.file.bill.tenor.n,.int x.file.bill.tenor.unit,.int x.file.bill.day,.int x.file.bill.city,.int x.file.bill.pay,.int x.file.bill.need,.int x.file.bill.rate,.int x.file.bill.flags,.int x.file.bill.parts,signs x.file.signs,alters x.file.alters,acts x.file.acts,facts x.file.facts,.int x.sign,.int x.day,.int x.due]:=_root_.id rfl
@[simp] theorem aM4 (x:DView):D.agg [strs x.realm.currencies,lj x.realm.cities,groups x.realm.groups,firms x.realm.firms,orders x.realm.orders,usances x.realm.usances,rates x.realm.rates,halts x.realm.halts,.int x.forum,.int x.file.bill.drawer,.int x.file.bill.drawee,.int x.file.bill.payee,.int x.file.bill.sum,.int x.file.bill.currency,.int x.file.bill.tenor.kind,.int x.file.bill.tenor.n,.int x.file.bill.tenor.unit,.int x.file.bill.day,.int x.file.bill.city,.int x.file.bill.pay,.int x.file.bill.need,.int x.file.bill.rate,.int x.file.bill.flags,.int x.file.bill.parts,signs x.file.signs,alters x.file.alters,acts x.file.acts,facts x.file.facts,.int x.sign,.int x.day,.int x.due]=bY x:=_root_.id rfl
@[simp] theorem aJU (x:DView):gi 31 (bY x)=bY x:=_root_.id rfl
@[simp] theorem aNv (x:DView)(a0 a1 a2 a3 a4 a5 a6 a7 a8 a9 iS iT iU iV iW jV jW jX kE tT tU tV tW tX y8 y9 za zb zc zd ze:D):D.agg (db [a0,a1,a2,a3,a4,a5,a6,a7,a8,a9,iS,iT,iU,iV,iW,jV,jW,jX,kE,tT,tU,tV,tW,tX,y8,y9,za,zb,zc,zd,ze] 0 [strs x.realm.currencies,lj x.realm.cities,groups x.realm.groups,firms x.realm.firms,orders x.realm.orders,usances x.realm.usances,rates x.realm.rates,halts x.realm.halts,.int x.forum,.int x.file.bill.drawer,.int x.file.bill.drawee,.int x.file.bill.payee,.int x.file.bill.sum,.int x.file.bill.currency,.int x.file.bill.tenor.kind,.int x.file.bill.tenor.n,.int x.file.bill.tenor.unit,.int x.file.bill.day,.int x.file.bill.city,.int x.file.bill.pay,.int x.file.bill.need,.int x.file.bill.rate,.int x.file.bill.flags,.int x.file.bill.parts,signs x.file.signs,alters x.file.alters,acts x.file.acts,facts x.file.facts,.int x.sign,.int x.day,.int x.due])=bY x:=_root_.id rfl
@[simp] theorem aHT (x:DView):(bY x).c 1=lj x.realm.cities:=_root_.id rfl
@[simp] theorem aIf (x:DView):(bY x).c 8=.int x.forum:=_root_.id rfl
@[simp] theorem aIg (x:DView):(bY x).c 9=.int x.file.bill.drawer:=_root_.id rfl
@[simp] theorem aHU (x:DView):(bY x).c 10=.int x.file.bill.drawee:=_root_.id rfl
@[simp] theorem aHV (x:DView):(bY x).c 11=.int x.file.bill.payee:=_root_.id rfl
@[simp] theorem aHW (x:DView):(bY x).c 12=.int x.file.bill.sum:=_root_.id rfl
@[simp] theorem aHX (x:DView):(bY x).c 13=.int x.file.bill.currency:=_root_.id rfl
@[simp] theorem aHY (x:DView):(bY x).c 14=.int x.file.bill.tenor.kind:=_root_.id rfl
@[simp] theorem aHZ (x:DView):(bY x).c 15=.int x.file.bill.tenor.n:=_root_.id rfl
@[simp] theorem aH0 (x:DView):(bY x).c 16=.int x.file.bill.tenor.unit:=_root_.id rfl
@[simp] theorem aH1 (x:DView):(bY x).c 17=.int x.file.bill.day:=_root_.id rfl
@[simp] theorem aH2 (x:DView):(bY x).c 18=.int x.file.bill.city:=_root_.id rfl
@[simp] theorem aH3 (x:DView):(bY x).c 19=.int x.file.bill.pay:=_root_.id rfl
@[simp] theorem aH4 (x:DView):(bY x).c 20=.int x.file.bill.need:=_root_.id rfl
@[simp] theorem aH5 (x:DView):(bY x).c 21=.int x.file.bill.rate:=_root_.id rfl
@[simp] theorem aH6 (x:DView):(bY x).c 22=.int x.file.bill.flags:=_root_.id rfl
@[simp] theorem aH7 (x:DView):(bY x).c 23=.int x.file.bill.parts:=_root_.id rfl
@[simp] theorem aH8 (x:DView):(bY x).c 24=signs x.file.signs:=_root_.id rfl
@[simp] theorem aH9 (x:DView):(bY x).c 25=alters x.file.alters:=_root_.id rfl
@[simp] theorem aIa (x:DView):(bY x).c 26=acts x.file.acts:=_root_.id rfl
@[simp] theorem aIb (x:DView):(bY x).c 27=facts x.file.facts:=_root_.id rfl
@[simp] theorem aIc (x:DView):(bY x).c 28=.int x.sign:=_root_.id rfl
@[simp] theorem aId (x:DView):(bY x).c 29=.int x.day:=_root_.id rfl
@[simp] theorem aIe (x:DView):(bY x).c 30=.int x.due:=_root_.id rfl
def gj (l:List Int):Int:=if hasB l 0=true then 0 else if hasB l 2=true then 2 else 1
def gV (said:Said)(answer:Int):Int:=if iM said=0∨answer=1 then 1 else if iM said=2 then 2 else answer
def never:Int:=9223372036854775807
def yi (c:City):Nat→Int→Int×Int
 |0,d=>(d,0)
 |n+1,d=>if(fT c (d+1)).2≠0 then(0,(fT c (d+1)).2) else yi c n (fT c (d+1)).1
def yh (c:City)(d n:Int):Int×Int:=if dV d=false∨n<0∨20000<n then(0,3) else yi c n.toNat d
def dG (c:City)(said:Said)(fr:Int):Bool×Int:=
 if said.err≠0 then(true,never) else if said.cell.known=false then(false,0) else(true,if(yh c fr said.cell.n).2≠0 then never else(yh c fr said.cell.n).1)
def ahB (said:Said)(Xv:Int):Bool×Int:=
 if said.err≠0 then(true,never) else if said.cell.known=false then(false,0) else if 100000<Xv+said.cell.n then(true,never) else(true,Xv+said.cell.n)
def rM (day on:Int)(t:Bool×Int):Int:=if t.1=false then 2 else if on≠-1∧on≤t.2 then 1 else if on≠-1∨t.2<day then 0 else 2
def Ba (b:Bill)(kind fr:Int)(a:Act):Bool:=decide (a.kind=kind)&&decide (a.to=b.drawee)&&decide (fr≤a.day)
def uk (b:Bill)(l:List Act)(kind fr:Int):Int:=((l.find? (Ba b kind fr)).map (·.day)).getD (-1)
def DQ (b:Bill)(l:List Act)(due:Int):Int:=if due<uk b l 1 0 then-1 else uk b l 1 0
def Yc (b:Bill)(l:List Act)(due:Int):Int:=if DQ b l due≠-1 then DQ b l due else due
def DView.city (v:DView):City:=v.realm.cities.getD v.file.bill.pay.toNat default
def DView.asked (v:DView)(q:Int):Said:=dv v.realm v.forum q ⟨v.file,v.sign,v.sign,-1,v.due,v.day⟩
def DView.show_ (v:DView):Bool×Int:=ahB (ju v.realm v.forum 7 v.file v.day) v.file.bill.day
def DView.refused (v:DView):Int:=DQ v.file.bill v.file.acts v.due
def DView.dishon (v:DView):Int:=Yc v.file.bill v.file.acts v.due
def DView.seen_ (v:DView):Int:=if v.file.bill.tenor.kind=1 then rM v.day (lP v.file) v.show_ else 1
def DView.presented (v:DView):Int:=
 if v.file.bill.tenor.kind=0 then rM v.day (uk v.file.bill v.file.acts 2 0) v.show_
 else if v.refused≠-1 then v.seen_
 else if v.due=-1 then gj [v.seen_,2]
 else gj [v.seen_,rM v.day (uk v.file.bill v.file.acts 2 v.due) (dG v.city (v.asked 10) v.due)]
def lJ (b:Bill)(fr last w:Int):List Act→Int→Int
 |[],pw=>pw
 |a::l,pw=>
  if a.kind≠4∨a.to≠b.drawee∨a.day<fr∨last<a.day then lJ b fr last w l pw
  else if(if a.form=1 then w else 1)=1 then 1
  else lJ b fr last w l (if(if a.form=1 then w else 1)=2 then 2 else pw)
def DView.protested (v:DView):Int:=
 if(dG v.city (v.asked 10) v.dishon).1=false then 2
 else lJ v.file.bill v.dishon (dG v.city (v.asked 10) v.dishon).2 (iM (v.asked 9)) v.file.acts (if v.day≤(dG v.city (v.asked 10) v.dishon).2 then 2 else 0)
def Iw (dd:Int→Int)(fr tl:Int)(ja:List Act)(a:Act):Bool:=(decide (fr≤a.day)&&decide (a.day≤tl))||ja.any fun b=>decide (b.to=a.who)&&decide (a.day≤dd b.day)
def rq (dd:Int→Int)(fr tl who:Int):List Act→List Act→Int→Bool×Int
 |[],_,last=>(false,last)
 |a::l,ja,last=>
  if a.kind≠5 then rq dd fr tl who l ja last
  else if Iw dd fr tl ja a=false then rq dd fr tl who l ja last
  else if a.to=who then(true,last)
  else rq dd fr tl who l (ja++[a]) (max last (dd a.day))
def DView.who (v:DView):Int:=(cV v.file v.sign).who
def DView.notified (v:DView):Int:=
 if(dG v.city (v.asked 12) v.dishon).1=false then 2
 else if(rq (fun d=>(dG v.city (v.asked 12) d).2) v.dishon (dG v.city (v.asked 12) v.dishon).2 v.who v.file.acts [] (dG v.city (v.asked 12) v.dishon).2).1=true then 1
 else if(rq (fun d=>(dG v.city (v.asked 12) d).2) v.dishon (dG v.city (v.asked 12) v.dishon).2 v.who v.file.acts [] (dG v.city (v.asked 12) v.dishon).2).2<v.day then 0 else 2
noncomputable def jM (r:Realm)(forum:Int)(f:File)(sign day:Int):DView:=⟨r,forum,bB f day,sign,day,eh r forum f day⟩
def noK:Kept:=⟨0,0,0,0⟩
def DView.kept (v:DView):Kept:=
 if v.sign<0∨v.file.signs.length≤v.sign then noK
 else
    let p:=if v.due≠-1 then gV (v.asked 8) v.protested else 2
    let n:=if v.due≠-1 then gV (v.asked 11) v.notified else 2
    ⟨v.presented,p,n,gj [v.presented,p,n]⟩
noncomputable def ix (r:Realm)(forum:Int)(f:File)(sign day:Int):Kept:=(jM r forum f sign day).kept
noncomputable def AR (r:Realm)(forum:Int)(f:File)(day:Int):Int:=(jM r forum f 0 day).dishon
def du (n:Int):Prop:=n=0∨n=1∨n=2
theorem oD {c:Prop}[Decidable c]{a b:Int}(ha:du a)(hb:du b):du (if c then a else b):=by split<;>assumption
theorem and_3 (l:List Int):du (gj l):=by
 unfold gj
 repeat' split
 all_goals simp[du]
theorem ahT (d o:Int)(t:Bool×Int):du (rM d o t):=by
 unfold rM
 repeat' split
 all_goals simp[du]
theorem ah6 {s:Said}{a:Int}(h:du a):du (gV s a):=by
 unfold gV
 repeat' split
 all_goals first|(simp[du];done)|exact h
theorem aCR (v:DView):du v.seen_:=by unfold DView.seen_;split;exact ahT _ _ _;simp[du]
theorem aBr (v:DView):du v.presented:=by
 unfold DView.presented;exact oD (ahT _ _ _) (oD (aCR v) (oD (and_3 _) (and_3 _)))
theorem Sa (b:Bill)(fr last w:Int):∀(l:List Act) (pw:Int),du pw→du (lJ b fr last w l pw)
 |[],pw,h=>h
 |a::l,pw,h=>by
  unfold lJ;refine oD (Sa b fr last w l pw h) (oD (by simp[du]) (Sa b fr last w l _ (oD (by simp[du]) h)))
theorem aBu (v:DView):du v.protested:=by
 unfold DView.protested;exact oD (by simp[du]) (Sa _ _ _ _ _ _ (oD (by simp[du]) (by simp[du])))
theorem azK (v:DView):du v.notified:=by
 unfold DView.notified;exact oD (by simp[du]) (oD (by simp[du]) (oD (by simp[du]) (by simp[du])))
def dq (a b:Int):Prop:=a=2∨a=b
theorem Nl (a b c:Int):gj [a,b,c]=if a=0∨b=0∨c=0 then 0 else if a=2∨b=2∨c=2 then 2 else 1:=by
 unfold gj;simp only[Bu,List.mem_cons,List.not_mem_nil,or_false,eq_comm (a:=(0:Int)),eq_comm (a:=(2:Int))]
theorem Xl (a b:Int):gj [a,b]=if a=0∨b=0 then 0 else if a=2∨b=2 then 2 else 1:=by
 unfold gj;simp only[Bu,List.mem_cons,List.not_mem_nil,or_false,eq_comm (a:=(0:Int)),eq_comm (a:=(2:Int))]
theorem ai0 {a b c a' b' c':Int}(ha:dq a a')(hb:dq b b')(hc:dq c c'):dq (gj [a,b,c]) (gj [a',b',c']):=by
 rw[Nl,Nl];unfold dq at*
 repeat' split
 all_goals omega
theorem aiZ {a b a' b':Int}(ha:dq a a')(hb:dq b b'):dq (gj [a,b]) (gj [a',b']):=by
 rw[Xl,Xl];unfold dq at*
 repeat' split
 all_goals omega
structure SLe (a b:Said):Prop where
 cell:gW a.cell b.cell
 err:b.err=a.err
theorem SLe.tri {a b:Said}(h:SLe a b):dq (iM a) (iM b):=by
 by_cases e:iM a=2
 ·exact .inl e
 ·exact .inr (aGf h.cell h.err e).symm
theorem SLe.days {a b:Said}(h:SLe a b)(c:City)(fr:Int):(dG c a fr).1=false∨dG c b=dG c a:=by
 by_cases e:a.err=0
 ·cases k:a.cell.known
  ·left;simp[dG,e,k]
  ·right;funext d;unfold dG;rw[h.err,h.cell k]
 ·right;funext d;have e2:b.err≠0:=by rw[h.err];exact e
  unfold dG;rw[if_pos e,if_pos e2]
theorem ah8 {s s':Said}{a a':Int}(hs:SLe s s')(ha:dq a a'):dq (gV s a) (gV s' a'):=by
 have ht:=hs.tri;unfold gV;unfold dq at*
 repeat' split
 all_goals omega
structure DMore (v w:DView):Prop where
 realm:w.realm=v.realm
 forum:w.forum=v.forum
 sign:w.sign=v.sign
 day:w.day=v.day
 due:w.due=v.due
 file:MoreF v.file w.file
theorem DMore.asked {v w:DView}(h:DMore v w)(q:Int):SLe (v.asked q) (w.asked q):=by
 have hm:=ai9 v.realm v.forum q (c:=⟨v.file,v.sign,v.sign,-1,v.due,v.day⟩) h.file.same ⟨fun k=>(h.file.at_ v.day).le k _,fun k=>(h.file.at_ v.day).le k _⟩;unfold DView.asked;rw[h.realm,h.forum,h.sign,h.day,h.due];exact⟨hm.1,hm.2⟩
theorem DMore.city {v w:DView}(h:DMore v w):w.city=v.city:=by unfold DView.city;rw[h.realm,h.file.same.bill]
theorem DMore.show_ {v w:DView}(h:DMore v w):w.show_=v.show_:=by
 unfold DView.show_;rw[h.realm,h.forum,h.day,N5 v.realm v.forum 7 h.file.same,h.file.same.bill]
theorem DMore.refused {v w:DView}(h:DMore v w):w.refused=v.refused:=by
 unfold DView.refused;rw[h.file.same.bill,h.file.same.acts,h.due]
theorem DMore.dishon {v w:DView}(h:DMore v w):w.dishon=v.dishon:=by
 unfold DView.dishon;rw[h.file.same.bill,h.file.same.acts,h.due]
theorem DMore.seen_ {v w:DView}(h:DMore v w):w.seen_=v.seen_:=by
 unfold DView.seen_;rw[h.show_,h.file.same.bill,h.day,Ua h.file.same]
theorem DMore.presented {v w:DView}(h:DMore v w):dq v.presented w.presented:=by
 have hd:=(h.asked 10).days v.city v.due;unfold DView.presented;rw[h.seen_,h.refused,h.due,h.show_,h.city,h.file.same.bill,h.file.same.acts,h.day];split
 ·exact .inr rfl
 split
 ·exact .inr rfl
 split
 ·exact .inr rfl
 ·refine aiZ (.inr rfl) ?_;rcases hd with e|e
  ·left;unfold rM;rw[if_pos e]
  ·right;rw[e]
theorem af6 (b:Bill)(fr last:Int):∀l:List Act,lJ b fr last 2 l 2=2∨lJ b fr last 2 l 2=1
 |[]=>.inl rfl
 |a::l=>by
  have ih:=af6 b fr last l;unfold lJ;split
  ·exact ih
  by_cases e:a.form=1
  ·rw[if_pos e,if_neg (by decide),if_pos rfl];exact ih
  ·rw[if_neg e,if_pos rfl];exact .inr rfl
theorem Lt (b:Bill)(fr last:Int){w w':Int}(hw:dq w w'):∀(l:List Act) (x y:Int),dq x y→dq (lJ b fr last w l x) (lJ b fr last w' l y)
 |[],x,y,h=>h
 |a::l,x,y,h=>by
  unfold lJ;split
  ·exact Lt b fr last hw l x y h
  by_cases e:a.form=1
  ·rw[if_pos e,if_pos e];by_cases e1:w=1
   ·have:w'=1:=by unfold dq at hw;omega
    rw[if_pos e1,if_pos this];exact .inr rfl
   rw[if_neg e1];by_cases e2:w=2
   ·rw[if_pos e2];by_cases e3:w'=1
    ·rw[if_pos e3];subst e2;rcases af6 b fr last l with h'|h'<;>rw[h']
     ·exact .inl rfl
     ·exact .inr rfl
    ·rw[if_neg e3];refine Lt b fr last hw l _ _ (.inl rfl)
   ·have e3:w'=w:=by unfold dq at hw;omega
    subst e3;rw[if_neg e1,if_neg e2,if_neg e2];exact Lt b fr last (.inr rfl) l x y h
  ·rw[if_neg e,if_neg e,if_pos rfl,if_pos rfl];exact .inr rfl
theorem DMore.protested {v w:DView}(h:DMore v w):dq v.protested w.protested:=by
 have hd:=(h.asked 10).days v.city v.dishon;unfold DView.protested;rw[h.dishon,h.city];split
 ·exact .inl rfl
 rename_i hk;rcases hd with e|e
 ·exact absurd e hk
 rw[e,if_neg hk,h.file.same.bill,h.file.same.acts,h.day];exact Lt _ _ _ (h.asked 9).tri _ _ _ (.inr rfl)
theorem DMore.notified {v w:DView}(h:DMore v w):dq v.notified w.notified:=by
 have hd:=(h.asked 12).days v.city v.dishon;have hw:w.who=v.who:=by unfold DView.who cV;rw[h.file.same.signs,h.sign]
 unfold DView.notified;rw[h.dishon,h.city];split
 ·exact .inl rfl
 rename_i hk;rcases hd with e|e
 ·exact absurd e hk
 rw[e,if_neg hk,h.file.same.acts,h.day,hw];exact .inr rfl
structure KStays (a b:Kept):Prop where
 shown:dq a.shown b.shown
 protest:dq a.protest b.protest
 notice:dq a.notice b.notice
 all_:dq a.all_ b.all_
theorem DMore.kept {v w:DView}(h:DMore v w):KStays v.kept w.kept:=by
 have h1:=h.presented;have h2:dq (if v.due≠-1 then gV (v.asked 8) v.protested else 2) (if v.due≠-1 then gV (w.asked 8) w.protested else 2):=by
  split
  ·exact ah8 (h.asked 8) h.protested
  ·exact .inl rfl
 have h3:dq (if v.due≠-1 then gV (v.asked 11) v.notified else 2) (if v.due≠-1 then gV (w.asked 11) w.notified else 2):=by
  split
  ·exact ah8 (h.asked 11) h.notified
  ·exact .inl rfl
 unfold DView.kept;rw[h.sign,h.due,h.file.same.signs];split
 ·exact⟨.inr rfl,.inr rfl,.inr rfl,.inr rfl⟩
 ·exact⟨h1,h2,h3,ai0 h1 h2 h3⟩
theorem axI {v w:DView}(hr:w.realm=v.realm)(hf:w.forum=v.forum)(hs:w.sign=v.sign)(hd:w.day=v.day)(hu:w.due=v.due)(h:SameF v.file w.file)(ha:∀q,w.asked q=v.asked q):w.kept=v.kept:=by
 have hc:w.city=v.city:=by unfold DView.city;rw[hr,h.bill]
 have iu:w.show_=v.show_:=by unfold DView.show_;rw[hr,hf,hd,N5 v.realm v.forum 7 h,h.bill]
 have B5:w.refused=v.refused:=by unfold DView.refused;rw[h.bill,h.acts,hu]
 have me:w.dishon=v.dishon:=by unfold DView.dishon;rw[h.bill,h.acts,hu]
 have uQ:w.seen_=v.seen_:=by unfold DView.seen_;rw[iu,h.bill,hd,Ua h]
 have hp:w.presented=v.presented:=by unfold DView.presented;rw[uQ,B5,hu,iu,hc,h.bill,h.acts,hd,ha]
 have mu:w.protested=v.protested:=by unfold DView.protested;rw[me,hc,ha,ha,h.bill,h.acts,hd]
 have hw:w.who=v.who:=by unfold DView.who cV;rw[h.signs,hs]
 have eE:w.notified=v.notified:=by unfold DView.notified;rw[me,hc,ha,h.acts,hd,hw]
 unfold DView.kept;rw[hs,hu,h.signs,hp,mu,eE,ha,ha]
theorem aba (r:Realm)(forum:Int){f g:File}(h:MoreF f g)(sign day:Int):DMore (jM r forum f sign day) (jM r forum g sign day):=
 ⟨rfl,rfl,rfl,rfl,QP r forum h.same day,h.at_ day⟩
theorem axK (r:Realm)(forum:Int){f g:File}(h:MoreF f g)(sign day:Int):KStays (ix r forum f sign day) (ix r forum g sign day):=(aba r forum h sign day).kept
theorem apR (r:Realm)(forum:Int){f g:File}(h:MoreF f g)(day:Int):AR r forum g day=AR r forum f day:=(aba r forum h 0 day).dishon
theorem axJ (r:Realm)(forum:Int){f g:File}(h:SameF f g){sign:Int}(hf:qE f g sign)(day:Int):ix r forum g sign day=ix r forum f sign day:=by
 have pJ:=h.at_ day;refine axI (v:=jM r forum f sign day) (w:=jM r forum g sign day) rfl rfl rfl rfl (QP r forum h day) pJ fun q=>?_;have hm:eh r forum g day=eh r forum f day:=QP r forum h day;show dv r forum q ⟨bB g day,sign,sign,-1,eh r forum g day,day⟩=_;rw[hm];exact ajc r forum q (c:=⟨bB f day,sign,sign,-1,eh r forum f day,day⟩) pJ ((hf.at_ h.signs day).at_ pJ.signs day) rfl
theorem aGI (f:File)(x:Fact)(k s:Int)(hs:s≠x.at_):br (iP f x) k s=br f k s:=by
 unfold iP;by_cases hk:(br f x.kind x.at_).known=true
 ·rw[if_pos hk]
 rw[if_neg hk];have hx:dI k s x=false:=by
  cases h:dI k s x
  ·rfl
  ·simp[dI] at h;exact absurd h.2.symm hs
 have hf:(pg f.facts x).find? (dI k s)=f.facts.find? (dI k s):=by
  unfold pg;rw[List.append_assoc,List.find?_append,List.find?_append];have h1:[x].find? (dI k s)=none:=by simp[hx]
  rw[h1];have key:∀y,dI k s y=true→y.kind=k∧y.at_=s:=fun y hy=>by simpa [dI] using hy
  by_cases ak:s<x.at_
  ·rw[G0 (q:=fm x) (fun y hy=>by obtain⟨rfl,rfl⟩:=key y hy;simp[fm];omega),G1 (q:=gl x) (fun y hy=>by obtain⟨rfl,rfl⟩:=key y hy;simp[gl];omega)];cases f.facts.find? (dI k s)<;>rfl
  ·rw[G1 (q:=fm x) (fun y hy=>by obtain⟨rfl,rfl⟩:=key y hy;simp[fm];omega),G0 (q:=gl x) (fun y hy=>by obtain⟨rfl,rfl⟩:=key y hy;simp[gl];omega)];rfl
 unfold br;rw[hf]
def oG (f:File)(x:Fact):Bool:=(decide (0≤x.kind)&&decide (x.kind<5))&&(decide (0≤x.at_)&&decide (x.at_<f.signs.length))&&(decide (0≤x.n)&&decide (x.n≤1))
def jY (f:File)(l:List Fact):File:=l.foldl (fun g x=>if oG g x=true then iP g x else g) f
theorem zg (f:File)(l:List Fact):MoreF f (jY f l):=by
 have h:∀(l:List Fact) (g:File),MoreF f g→MoreF f (l.foldl (fun g x=>if oG g x=true then iP g x else g) g):=by
  intro l
  induction l with
  |nil=>exact fun g hg=>hg
  |cons x l ih=>
   intro g hg;refine ih _ ?_;show MoreF f (if oG g x=true then iP g x else g);split
   ·exact hg.with_ x
   ·exact hg
 exact h l f (.rfl' f)
theorem Xg (f:File)(l:List Fact):(jY f l).facts.length≤f.facts.length+l.length:=by
 have h:∀(l:List Fact) (g:File),(l.foldl (fun g x=>if oG g x=true then iP g x else g) g).facts.length≤g.facts.length+l.length:=by
  intro l
  induction l with
  |nil=>intro g;simp
  |cons x l ih=>
   intro g;have h1:=ih (if oG g x=true then iP g x else g);have h2:=aGH g x;simp only[List.foldl_cons,List.length_cons];split at h1<;>rename_i hc
   ·rw[if_pos hc];omega
   ·rw[if_neg hc];omega
 exact h l f
theorem aiP (f:File)(s:Int)(l:List Fact)(hl:∀x,x∈l→x.at_≠s):qE f (jY f l) s:=by
 have h:∀(l:List Fact) (g:File),(∀x,x∈l→x.at_≠s)→qE f g s→qE f (l.foldl (fun g x=>if oG g x=true then iP g x else g) g) s:=by
  intro l
  induction l with
  |nil=>exact fun g _ hg=>hg
  |cons x l ih=>
   intro g hl hg;refine ih _ (fun y hy=>hl y (by simp[hy])) ?_;show qE f (if oG g x=true then iP g x else g) s;split
   ·intro k;rw[aGI g x k s (Ne.symm (hl x (by simp)))];exact hg k
   ·exact hg
 exact h l f hl fun _=>rfl
theorem aiQ (f:File)(l:List Fact){k:Nat}(hk:k<l.length):jY f (l.take (k+1))=if oG (jY f (l.take k)) l[k]=true then iP (jY f (l.take k)) l[k] else jY f (l.take k):=by
 unfold jY;rw[List.take_succ_eq_append_getElem hk,List.foldl_append];rfl
end Rm
namespace Rm
open Go Go.Proofs Cx
theorem ai2 (o:Order)(q:Int)(cs:List Cell)(hq:(lV q).1=0)(hk:(kF o q cs).1.known=true):0≤(kF o q cs).1.n∧(kF o q cs).1.n≤20000:=by
 unfold kF at hk ⊢;split at hk
 ·cases hk
 ·rename_i h;rw[if_neg h];simp only at hk ⊢;split at hk
  ·rename_i h2;rw[if_pos h2];simp only;omega
  ·rename_i h2;exact absurd ⟨hq,hk⟩ h2
theorem ajb (r:Realm)(forum q:Int)(c:Case)(hq:(lV q).1=0)(hk:(dv r forum q c).cell.known=true):0≤(dv r forum q c).cell.n∧(dv r forum q c).cell.n≤20000:=by
 unfold dv at hk ⊢;split at hk
 ·rename_i h;exfalso;have:(ew r forum q c).1.cell=dm:=by
   unfold ew
   repeat' split
   all_goals rfl
  rw[this] at hk;cases hk
 ·rename_i h;rw[if_neg h];exact ai2 _ _ _ hq hk
end Rm
namespace Rm
open Go Go.Proofs Cx
@[simp] theorem aNo:D.none.b=false:=_root_.id rfl
theorem ej (n a b:Int):ao T Ct [.int n,.int a,.int b] (.bool (wi n a b)):=by
 refine .of_tree rfl aj8 aEQ ?_;simp[Vj];by_cases h:a≤n<;>simp[wi,h]
theorem mR (n m:Int):ao T adz [.int n,.int m] (.bool (aF n m)):=by
 refine .of_tree rfl alq aGd ?_;simp[Ww];by_cases h:0≤n<;>simp[aF,h]
def ML (b:Bill):Bool:=
 if b.tenor.kind=0∨b.tenor.kind=4 then decide (b.tenor.n=0)&&decide (b.tenor.unit=0)
 else if b.tenor.kind=1∨b.tenor.kind=2 then(decide (1≤b.tenor.n)&&decide (b.tenor.n≤400))&&(decide (b.tenor.unit=0)||decide (b.tenor.unit=1))
 else if b.tenor.kind=3 then(decide (b.day≤b.tenor.n)&&decide (b.tenor.n≤100000))&&decide (b.tenor.unit=0)
 else false
theorem aGL (b:Bill):ao T adA [dH b] (.bool (ML b)):=by
 refine .of_tree rfl alr aGe ?_;unfold ML;simp[Wx];by_cases h0:b.tenor.kind=0
 ·by_cases h1:b.tenor.n=0<;>simp[h0,h1]
 by_cases h4:b.tenor.kind=4
 ·by_cases h1:b.tenor.n=0<;>simp[h4,h1]
 simp[h0,h4];by_cases k1:b.tenor.kind=1
 ·by_cases h1:1≤b.tenor.n<;>by_cases h2:b.tenor.n≤400<;>by_cases h3:b.tenor.unit=0<;>simp[k1,h1,h2,h3]
 by_cases k2:b.tenor.kind=2
 ·by_cases h1:1≤b.tenor.n<;>by_cases h2:b.tenor.n≤400<;>by_cases h3:b.tenor.unit=0<;>simp[k2,h1,h2,h3]
 simp[k1,k2];by_cases k3:b.tenor.kind=3
 ·by_cases h1:b.day≤b.tenor.n<;>by_cases h2:b.tenor.n≤100000<;>simp[k3,h1,h2]
 simp[k3]
def rl (n m:Int):Bool:=decide (n=-1)||aF n m
def wh (r:Realm)(b:Bill):Bool:=((aF b.drawer r.firms.length&&aF b.drawee r.firms.length)&&rl b.payee r.firms.length)&&rl b.need r.firms.length
def rN (r:Realm)(b:Bill):Bool:=(aF b.currency r.currencies.length&&aF b.city r.cities.length)&&aF b.pay r.cities.length
def vS (b:Bill):Prop:=((((1≤b.sum∧b.sum≤1099511627776)∧0≤b.day)∧b.day≤100000)∧0≤b.rate)∧b.rate≤1000
def OQ (b:Bill):Prop:=((0≤b.flags∧b.flags≤7)∧(dc .and .i64 b.flags 4=0∨¬b.payee=-1))∧ML b=true
structure BillOK (r:Realm) (b:Bill):Prop where
 realm:jv r=0
 who:wh r b=true
 where_:rN r b=true
 range:vS b
 parts:1≤b.parts∧b.parts≤4
 form:OQ b
 usance:b.tenor.kind=4→∃u,u∈r.usances∧u.fr=b.city∧u.to=b.pay
def nN (P:Prop)(d:D):Prop:=∃e:Int,d=.int e∧(e=0↔P)
theorem nN.no {P:Prop}{e:Int}(h:¬P)(he:e≠0):nN P (.int e):=⟨e,rfl,fun x=>absurd x he,fun x=>absurd x h⟩
theorem nN.ok {P:Prop}(h:P):nN P (.int 0):=⟨0,rfl,fun _=>h,fun _=>rfl⟩
theorem aGK (r:Realm)(hs:Small r)(b:Bill):∃d,ao T ady [bf r,dH b] d∧nN (BillOK r b) d:=by
 refine ao.ex_of_tree rfl alp aGc ?_;simp[Wv];refine⟨_,TO r hs,?_⟩;by_cases h0:jv r=0
 case neg=>
  simp[h0];exact .no (fun h=>h0 h.realm) h0
 simp[h0];refine⟨_,mR _ _,?_⟩;cases h1:aF b.drawer r.firms.length
 ·simp;exact .no (fun h=>by simpa [wh,h1] using h.who) (by decide)
 simp;refine⟨_,mR _ _,?_⟩;cases h2:aF b.drawee r.firms.length
 ·simp;exact .no (fun h=>by simpa [wh,h2] using h.who) (by decide)
 by_cases h3:rl b.payee r.firms.length=true
 case neg=>
  have eO:¬b.payee=-1∧aF b.payee r.firms.length=false:=by simpa [rl] using h3
  simp[eO.1];refine⟨_,mR _ _,?_⟩;simp[eO.2];exact .no (fun h=>h3 (by have:=h.who;simp[wh] at this;exact this.1.2)) (by decide)
 by_cases h4:rl b.need r.firms.length=true
 case neg=>
  have oh:¬b.need=-1∧aF b.need r.firms.length=false:=by simpa [rl] using h4
  have eE:nN (BillOK r b) (.int 1):=.no (fun h=>h4 (by have:=h.who;simp[wh] at this;exact this.2)) (by decide);by_cases hp:b.payee=-1
  ·simp[hp,oh.1];refine⟨_,mR _ _,?_⟩;simp[oh.2];exact eE
  ·have eO:aF b.payee r.firms.length=true:=by simpa [rl,hp] using h3
   simp[hp];refine⟨_,mR _ _,?_⟩;simp[eO,oh.1];refine⟨_,mR _ _,?_⟩;simp[oh.2];exact eE
 have uW:wh r b=true:=by simp[wh,h1,h2,h3,h4]
 have hp:b.payee=-1∨(¬b.payee=-1∧aF b.payee r.firms.length=true):=by
  by_cases e:b.payee=-1
  ·exact .inl e
  ·exact .inr ⟨e,by simpa [rl,e] using h3⟩
 have hn:b.need=-1∨(¬b.need=-1∧aF b.need r.firms.length=true):=by
  by_cases e:b.need=-1
  ·exact .inl e
  ·exact .inr ⟨e,by simpa [rl,e] using h4⟩
 have bad:¬rN r b=true→nN (BillOK r b) (.int 1):=fun h=>.no (fun k=>h k.where_) (by decide);have fin:∀u:Int,(u=0↔∃u,u∈r.usances∧u.fr=b.city∧u.to=b.pay)→vS b→(1≤b.parts∧b.parts≤4)→OQ b→rN r b=true→nN (BillOK r b) (if b.tenor.kind=4 then .int u else .int 0):=by
  intro u hu h6 h7 h8 h9;by_cases e:b.tenor.kind=4
  ·rw[if_pos e];exact⟨u,rfl,fun h=>⟨h0,uW,h9,h6,h7,h8,fun _=>hu.1 h⟩,fun h=>hu.2 (h.usance e)⟩
  ·rw[if_neg e];exact .ok ⟨h0,uW,h9,h6,h7,h8,fun h=>absurd h e⟩
 obtain⟨un,ue,Qh,_,Qi⟩:=W9 r b.city b.pay (by have:=hs.us;omega);rcases hp with hp|⟨hp,eR⟩<;>rcases hn with hn|⟨hn,oz⟩
 case' inl.inl=>simp[hp,hn]
 case' inl.inr=>simp[hp,hn];refine⟨_,mR _ _,?_⟩;simp[oz]
 case' inr.inl=>simp[hp,hn];refine⟨_,mR _ _,?_⟩;simp[eR]
 case' inr.inr=>simp[hp,hn];refine⟨_,mR _ _,?_⟩;simp[eR];refine⟨_,mR _ _,?_⟩;simp[oz]
 all_goals
  refine⟨_,mR _ _,?_⟩;cases h5:aF b.currency r.currencies.length
  ·simp;exact bad (by simp[rN,h5])
  simp;refine⟨_,mR _ _,?_⟩;cases h6:aF b.city r.cities.length
  ·simp;exact bad (by simp[rN,h6])
  simp;refine⟨_,mR _ _,?_⟩;cases h7:aF b.pay r.cities.length
  ·simp;exact bad (by simp[rN,h7])
  have Ce:rN r b=true:=by simp[rN,h5,h6,h7]
  simp;by_cases h8:vS b
  case neg=>
   have OV:((((b.sum<1∨1099511627776<b.sum)∨b.day<0)∨100000<b.day)∨b.rate<0)∨1000<b.rate:=by unfold vS at h8;omega
   rw[if_pos OV];exact .no (fun k=>h8 k.range) (by decide)
  have OV:¬(((((b.sum<1∨1099511627776<b.sum)∨b.day<0)∨100000<b.day)∨b.rate<0)∨1000<b.rate):=by unfold vS at h8;omega
  rw[if_neg OV];by_cases h9:1≤b.parts∧b.parts≤4
  case neg=>
   rw[if_pos (by omega)];exact .no (fun k=>h9 k.parts) (by decide)
  rw[if_neg (by omega)];have Nr:¬OQ b→nN (BillOK r b) (.int 2):=fun h=>.no (fun k=>h k.form) (by decide);by_cases g1:0≤b.flags∧b.flags≤7
  case neg=>
   have eN:b.flags<0∨7<b.flags:=by omega
   simp[g1,eN];exact Nr (fun h=>g1 h.1.1)
  have eN:¬(b.flags<0∨7<b.flags):=by omega
  by_cases g2:dc .and .i64 b.flags 4=0∨¬b.payee=-1
  case neg=>
   have mX:¬dc .and .i64 b.flags 4=0∧b.payee=-1:=by simpa using g2
   first
        |exact absurd mX.2 hp
        |(simp[g1,eN,mX]
          exact Nr (fun h=>g2 h.1.2))
  have g3:(b.payee=-1→dc .and .i64 b.flags 4=0):=fun e=>g2.resolve_right (fun h=>h e);simp[g1,eN,hp,g3];refine⟨_,aGL b,?_⟩;cases mY:ML b
  ·simp;exact Nr (fun h=>by have:=h.2;rw[mY] at this;cases this)
  have hf:=fin ue Qi h8 h9 ⟨⟨g1,g2⟩,mY⟩ Ce;simp;by_cases e:b.tenor.kind=4
  ·simp[e] at hf ⊢;exact⟨_,Qh,hf⟩
  ·simp[e] at hf ⊢;exact hf
end Rm
namespace Rm
open Go Go.Proofs Cx
def yS (f:File)(i part:Int):Bool:=decide (i=0)||decide ((cV f i).part=part)
theorem afq (f:File)(i part:Int)(h:i=0∨(0≤i∧i<f.signs.length)):ao T acq [cm f,.int i,.int part] (.bool (yS f i part)):=by
 refine .of_tree rfl aka aES ?_;unfold yS;by_cases h0:i=0
 ·simp[MX,h0]
 ·obtain⟨h1,h2⟩:=h.resolve_left h0;have h3:i.toNat<f.signs.length:=by omega
  simp[MX,h0,h1,h2,h3,cV]
def Ew (f:File)(i:Int)(kinds:List Int):Bool:=wi (cV f i).for_ 0 (i-1)&&(yS f (cV f i).for_ (cV f i).part&&hasB kinds (cV f (cV f i).for_).kind)
theorem aBe (f:File)(i:Int)(kinds:List Int)(h:0≤i∧i<f.signs.length)(hl:f.signs.length≤100000)(hk:kinds.length≤100):ao T acm [cm f,.int i,ints kinds] (.bool (Ew f i kinds)):=by
 refine .of_tree rfl aj5 aEN ?_;have h1:i.toNat<f.signs.length:=by omega
 have hw:IntKind.i64.wrap (i-1)=i-1:=bN (by omega);have hs:cV f i=f.signs[i.toNat]:=by simp[cV,h1]
 unfold Ew;rw[hs];simp[Vg,h,h1,hw];refine⟨_,ej _ _ _,?_⟩;cases hb:wi f.signs[i.toNat].for_ 0 (i-1)
 ·simp
 ·have bE:0≤f.signs[i.toNat].for_∧f.signs[i.toNat].for_<f.signs.length:=by
   simp[wi] at hb;omega
  have h2:f.signs[i.toNat].for_.toNat<f.signs.length:=by omega
  have dZ:cV f f.signs[i.toNat].for_=f.signs[f.signs[i.toNat].for_.toNat]:=by simp[cV,h2]
  rw[dZ];simp;refine⟨_,afq f _ _ (.inr bE),?_⟩;cases cH:yS f f.signs[i.toNat].for_ f.signs[i.toNat].part
  ·simp
  simp[bE,h2];exact qD kinds _ (by omega)
def YE (r:Realm)(b:Bill)(s:Sign)(B:List Int→Bool):Bool:=
 if s.kind=0 then((((decide (s.who=b.drawer)&&decide (s.sum=0))&&decide (dc .or .i64 s.flags 1=1))&&decide (s.part=0))&&decide (s.day=b.day))&&decide (s.city=b.city)
 else if s.kind=1 then decide (s.who=b.drawee)&&(wi s.sum 1 1099511627776&&decide (s.flags=0))
 else if s.kind=2 then((wi s.to (-1) ((r.firms.length:Int)-1)&&decide (s.sum=0))&&wi s.flags 0 7)&&decide (dc .and .i64 s.flags 6≠6)
 else if s.kind=3 then(decide (s.sum=0)&&decide (s.flags=0))&&B [0,1,2,4]
 else if s.kind=4 then((wi s.sum 1 1099511627776&&decide (s.flags=0))&&decide (s.who≠b.drawee))&&B [0,2]
 else false
def ON (r:Realm)(b:Bill)(i:Nat)(s:Sign)(B:List Int→Bool):Bool:=
 if ¬(i=0↔s.kind=0)∨(¬s.kind=2∧¬s.to=-1) then false
 else if(¬s.kind=3∧¬s.kind=4)∧¬s.for_=-1 then false
 else YE r b s B
def Be (r:Realm)(f:File)(i:Nat):Bool:=ON r f.bill i (f.signs.getD i default) (Ew f i)
theorem aBg (r:Realm)(hr:Small r)(f:File)(i:Nat)(h:i<f.signs.length)(hl:f.signs.length≤100000):ao T aco [bf r,cm f,.int i] (.bool (Be r f i)):=by
 refine .of_tree rfl aj7 aEP ?_;have j7:=hr.firms;have hw:IntKind.i64.wrap ((r.firms.length:Int)-1)=(r.firms.length:Int)-1:=bN (by omega);have hs:f.signs.getD i default=f.signs[i]:=by simp[h]
 have O4:=fun ks hk=>aBe f i ks ⟨by omega,by omega⟩ hl hk;unfold Be;rw[hs];generalize hB:Ew f i=B at O4 ⊢;generalize hX:ON r f.bill i f.signs[i] B=X;simp[Vi,h];generalize f.signs[i]=s at*;unfold ON at hX;by_cases h1:¬(i=0↔s.kind=0)∨(¬s.kind=2∧¬s.to=-1)
 ·rw[if_pos h1] at hX ⊢;exact hX.symm
 rw[if_neg h1] at hX ⊢;by_cases h2:(¬s.kind=3∧¬s.kind=4)∧¬s.for_=-1
 ·rw[if_pos h2] at hX ⊢;exact hX.symm
 rw[if_neg h2] at hX ⊢;refine⟨_,ej _ _ _,?_⟩;unfold YE at hX;by_cases k0:s.kind=0
 ·rw[if_pos k0] at hX ⊢;rw[←hX];by_cases a:(((s.who=f.bill.drawer∧s.sum=0)∧dc BinOp.or IntKind.i64 s.flags 1=1)∧s.part=0)∧s.day=f.bill.day
  ·simp[a]
  ·rw[if_neg a]
   congr 1
   rw[eq_comm,Bool.eq_false_iff];intro e;simp at e;exact a e.1
 rw[if_neg k0] at hX ⊢;by_cases k1:s.kind=1
 ·rw[if_pos k1] at hX ⊢;rw[←hX];by_cases a:s.who=f.bill.drawee<;>cases wi s.sum 1 1099511627776<;>simp[a]
 rw[if_neg k1] at hX ⊢;by_cases k2:s.kind=2
 ·rw[if_pos k2] at hX ⊢;rw[←hX,hw];refine⟨_,ej _ _ _,?_⟩;cases wi s.to (-1) ((r.firms.length:Int)-1)
  ·simp
  by_cases a:s.sum=0
  case neg=>simp[a]
  simp[a];refine⟨_,ej _ _ _,?_⟩;cases wi s.flags 0 7<;>simp
 rw[if_neg k2] at hX ⊢;by_cases k3:s.kind=3
 ·rw[if_pos k3] at hX ⊢;rw[←hX];by_cases a:s.sum=0∧s.flags=0
  case neg=>
   rw[if_neg a,if_neg a]
   congr 1
   rw[eq_comm,Bool.eq_false_iff];intro e;simp at e;exact a e.1
  rw[if_pos a];refine⟨_,O4 [0,1,2,4] (by decide),?_⟩;simp[a]
 rw[if_neg k3] at hX ⊢;by_cases k4:s.kind=4
 ·rw[if_pos k4] at hX ⊢;rw[←hX];cases wi s.sum 1 1099511627776
  ·simp
  by_cases a:s.flags=0∧¬s.who=f.bill.drawee
  case neg=>
   simp[a]
  simp[a];exact O4 [0,2] (by decide)
 rw[if_neg k4] at hX ⊢;exact hX.symm
end Rm
namespace Rm
open Go Go.Proofs Cx
def kI (f:File)(i:Nat):Int:=if i=0 then f.bill.day else(f.signs.getD (i-1) default).day
def D9 (f:File)(i:Nat)(s:Sign):Bool:=(f.signs.take i).any fun x=>(decide (s.kind=1)&&decide (x.kind=1))&&decide (x.part=s.part)
def yR (r:Realm)(f:File)(i:Nat):Int:=
 let s:=f.signs.getD i default
 if wi s.part 0 (f.bill.parts-1)=false then 15
 else if aF s.who r.firms.length=false∨aF s.city r.cities.length=false then 1
 else if wi s.day (kI f i) 100000=false∨(i=0∧¬s.day=kI f i) then 13
 else if Be r f i=false then 14
 else if D9 f i s=true then 5 else 0
theorem afp (r:Realm)(hr:Small r)(f:File)(hp:1≤f.bill.parts∧f.bill.parts≤4)(i:Nat)(h:i<f.signs.length)(hl:f.signs.length≤100000):ao T acp [bf r,cm f,.int i] (.int (yR r f i)):=by
 refine .of_tree rfl aj9 aER ?_;have j7:=hr.firms;have Pb:=hr.cities;have iv:IntKind.i64.wrap ((r.firms.length:Int)-1)=(r.firms.length:Int)-1:=bN (by omega);have cX:IntKind.i64.wrap ((r.cities.length:Int)-1)=(r.cities.length:Int)-1:=bN (by omega);have Qn:IntKind.i64.wrap (f.bill.parts-1)=f.bill.parts-1:=bN (by omega);have hs:f.signs.getD i default=f.signs[i]:=by simp[h]
 generalize hX:yR r f i=X;unfold yR at hX;simp only[hs] at hX;simp[Vk,h,iv,cX,Qn];refine⟨_,ej _ _ _,?_⟩;cases a1:wi f.signs[i].part 0 (f.bill.parts-1)
 ·simpa [a1] using hX
 simp[a1] at hX ⊢;refine⟨_,ej _ _ _,?_⟩;rw[my] at hX;cases a2:wi f.signs[i].who 0 ((r.firms.length:Int)-1)
 ·simpa [a2] using hX
 simp[a2] at hX ⊢;refine⟨_,ej _ _ _,?_⟩;rw[my] at hX;cases a3:wi f.signs[i].city 0 ((r.cities.length:Int)-1)
 ·simpa [a3] using hX
 simp[a3] at hX ⊢;refine⟨by omega,?_⟩;have HF:min i f.signs.length=i:=by omega
 refine aP.forRounds i (fun k=>[.int (kI f k),.bool ((f.signs.take k).any fun x=>(decide (f.signs[i].kind=1)&&decide (x.kind=1))&&decide (x.part=f.signs[i].part)),.int k]) (fun _=>[]) ?_ (fun k hk=>?_) ?_
 ·simp[kI]
 ·have hw:=bj hk (by omega);have bo:k<f.signs.length:=by omega
  have hf:kI f (k+1)=f.signs[k].day:=by simp[kI,bo]
  rw[List.take_succ_eq_append_getElem bo,List.any_append];generalize ((f.signs.take k).any fun x=>(decide (f.signs[i].kind=1)&&decide (x.kind=1))&&decide (x.part=f.signs[i].part))=A;simp[agP,Me,hk,bo,h,hw,hf,HF];cases A
  ·by_cases e1:f.signs[i].kind=1<;>by_cases e2:f.signs[k].kind=1<;>simp[e1,e2]
  ·simp
 ·have ht:D9 f i f.signs[i]=true↔∃x,x∈List.take i f.signs∧(f.signs[i].kind=1∧x.kind=1)∧x.part=f.signs[i].part:=by simp[D9]
  simp[agP,Me,HF,h];refine⟨_,ej _ _ _,?_⟩;by_cases a4:wi f.signs[i].day (kI f i) 100000=false∨(i=0∧¬f.signs[i].day=kI f i)
  ·rw[if_pos a4] at hX;rw[if_pos (by simpa using a4)];exact hX
  rw[if_neg a4] at hX;rw[if_neg (by simpa using a4)];refine⟨_,aBg r hr f i h hl,?_⟩;cases a5:Be r f i
  ·simpa [a5] using hX
  simp[a5] at hX;simp only[apv,if_true];rw[←hX];by_cases a6:D9 f i f.signs[i]=true
  ·rw[if_pos a6,if_pos (ht.1 a6)]
  ·rw[if_neg a6,if_neg (fun x=>a6 (ht.2 x))]
def En (a:Act)(to at_ own:Bool):Bool:=
 if a.kind=0∨a.kind=1∨a.kind=2 then(to&&decide (a.at_=-1))&&decide (a.sum=0)
 else if a.kind=3∨a.kind=4∨a.kind=5 then((to&&decide (a.at_=-1))&&wi a.sum 0 1099511627776)&&wi a.form 0 1
 else if a.kind=6 then(to&&own)&&wi a.sum 1 1099511627776
 else if a.kind=9 then(decide (a.to=-1)&&own)&&decide (a.sum=0)
 else(decide (a.to=-1)&&at_)&&decide (a.sum=0)
def zk (f:File)(a:Act):Bool:=aF a.at_ f.signs.length&&yS f a.at_ a.part
def R0 (f:File)(a:Act):Bool:=zk f a&&decide ((cV f a.at_).who=a.who)
def rT (r:Realm)(f:File)(a:Act):Bool:=
 if aF a.who r.firms.length=false∨(¬a.kind=4∧¬a.form=0) then false else En a (aF a.to r.firms.length) (zk f a) (R0 f a)
theorem aBc (r:Realm)(hr:Small r)(f:File)(a:Act)(hl:f.signs.length≤100000):ao T acj [bf r,cm f,iX a] (.bool (rT r f a)):=by
 refine .of_tree rfl aj3 aEL ?_;have j7:=hr.firms;have iv:IntKind.i64.wrap ((r.firms.length:Int)-1)=(r.firms.length:Int)-1:=bN (by omega);have cX:IntKind.i64.wrap ((f.signs.length:Int)-1)=(f.signs.length:Int)-1:=bN (by omega);generalize hX:rT r f a=X;unfold rT R0 zk at hX;simp[Ve,iv,cX];refine⟨_,ej _ _ _,?_⟩;rw[←my];have uT:=ej a.to 0 ((r.firms.length:Int)-1);have Ce:=ej a.who 0 ((r.firms.length:Int)-1);rw[←my] at uT Ce;generalize aF a.to r.firms.length=tt at*;generalize aF a.who r.firms.length=ww at*;have fin:∀at_ own:Bool,(if ww=false∨(¬a.kind=4∧¬a.form=0) then false else En a tt at_ own)=X→
  if ww=false∨(¬a.kind=4∧¬a.form=0) then X=false
  else if a.kind=0∨a.kind=1∨a.kind=2 then(if tt=true∧a.at_=-1 then D.bool (decide (a.sum=0)) else D.bool false)=D.bool X
  else if a.kind=3∨a.kind=5∨a.kind=4 then
        if tt=true∧a.at_=-1 then
         ∃d,ao (cR tab ext) Ct [D.int a.sum,D.int 0,D.int 1099511627776] d∧
          if(tt=true∧a.at_=-1)∧d.b=true then
             ∃rY,ao (cR tab ext) Ct [D.int a.form,D.int 0,D.int 1] rY∧(if(tt=true∧a.at_=-1)∧d.b=true then rY else D.bool false)=D.bool X
          else(if(tt=true∧a.at_=-1)∧d.b=true then D.none else D.bool false)=D.bool X
        else D.bool false=D.bool X
  else if a.kind=6 then
        if tt=true∧own=true then ∃rY,ao (cR tab ext) Ct [D.int a.sum,D.int 1,D.int 1099511627776] rY∧(if tt=true∧own=true then rY else D.bool false)=D.bool X
        else(if tt=true∧own=true then D.none else D.bool false)=D.bool X
  else if a.kind=9 then(if a.to=-1∧own=true then D.bool (decide (a.sum=0)) else D.bool false)=D.bool X
  else(if a.to=-1∧at_=true then D.bool (decide (a.sum=0)) else D.bool false)=D.bool X:=by
  intro at_ own hX;by_cases p:ww=false∨(¬a.kind=4∧¬a.form=0)
  ·rw[if_pos p] at hX ⊢;exact hX.symm
  rw[if_neg p] at hX ⊢;unfold En at hX;by_cases k0:a.kind=0∨a.kind=1∨a.kind=2
  ·rw[if_pos k0] at hX ⊢;rw[←hX];by_cases e:tt=true∧a.at_=-1
   ·simp[e]
   ·rw[if_neg e];cases tt<;>simp at e ⊢;simp[e]
  rw[if_neg k0] at hX ⊢;by_cases k3:a.kind=3∨a.kind=4∨a.kind=5
  ·rw[if_pos k3] at hX;rw[if_pos (by omega),←hX];by_cases e:tt=true∧a.at_=-1
   ·rw[if_pos e];refine⟨_,ej _ _ _,?_⟩;cases wi a.sum 0 1099511627776
    ·simp
    ·simp[e];exact ej _ _ _
   ·rw[if_neg e];cases tt<;>simp at e ⊢;simp[e]
  rw[if_neg k3] at hX;rw[if_neg (by omega)];by_cases k6:a.kind=6
  ·rw[if_pos k6] at hX ⊢;rw[←hX];by_cases e:tt=true∧own=true
   ·rw[if_pos e];refine⟨_,ej _ _ _,?_⟩;simp[e]
   ·rw[if_neg e,if_neg e];cases tt<;>cases own<;>simp at e ⊢
  rw[if_neg k6] at hX ⊢;by_cases k9:a.kind=9
  ·rw[if_pos k9] at hX ⊢;rw[←hX];cases own<;>by_cases e:a.to=-1<;>simp[e]
  rw[if_neg k9] at hX ⊢;rw[←hX];cases at_<;>by_cases e:a.to=-1<;>simp[e]
 cases h1:aF a.at_ f.signs.length
 ·have hf:=fin false false (by simpa [h1] using hX);simp at hf ⊢;refine⟨_,uT,_,Ce,?_⟩;simpa using hf
 have cD:0≤a.at_∧a.at_<f.signs.length:=by simpa [aF] using h1
 have h2:a.at_.toNat<f.signs.length:=by omega
 have hs:cV f a.at_=f.signs[a.at_.toNat]:=by simp[cV,h2]
 simp[cD];refine⟨_,afq f _ _ (.inr cD),_,uT,_,Ce,?_⟩;rw[h1,hs] at hX;have hf:=fin _ _ hX;cases h3:yS f a.at_ a.part
 ·rw[h3] at hf;simpa using hf
 ·rw[h3] at hf;simpa [h2] using hf
theorem Io (a b:Int):(if a<b then b else a)=max a b:=by split<;>omega
theorem Il (a b:Int):(if a<b then D.int b else D.int a)=D.int (max a b):=by
 rw[←Io];split<;>rfl
def xD (f:File)(i:Nat)(a:Act):Int:=
 let x:=if a.at_=-1 then f.bill.day else max f.bill.day (cV f a.at_).day
 if i=0 then x else max x (f.acts.getD (i-1) default).day
def qG (r:Realm)(f:File)(i:Nat):Int:=
 let a:=f.acts.getD i default
 if wi a.part 0 (f.bill.parts-1)=false then 15
 else if aF a.city r.cities.length=false∨wi a.kind 0 9=false then 1
 else if rT r f a=false then 14
 else if wi a.day (xD f i a) 100000=false then 13 else 0
theorem Xf {r:Realm}{f:File}{a:Act}(h:rT r f a=true)(hn:¬a.at_=-1):0≤a.at_∧a.at_<f.signs.length:=by
 unfold rT at h;split at h
 ·cases h
 have key:zk f a=true→0≤a.at_∧a.at_<f.signs.length:=fun e=>by
  unfold zk at e;simp only[Bool.and_eq_true] at e;simpa [aF] using e.1
 unfold En R0 at h
 repeat' split at h
 all_goals simp only[Bool.and_eq_true,decide_eq_true_eq] at h
 ·exact absurd h.1.2 hn
 ·exact absurd h.1.1.2 hn
 ·exact key h.1.2.1
 ·exact key h.1.2.1
 ·exact key h.1.2
theorem aBd (r:Realm)(hr:Small r)(f:File)(hp:1≤f.bill.parts∧f.bill.parts≤4)(hl:f.signs.length≤100000)(BL:f.acts.length≤100000):ao T ack [bf r,cm f] (.int (ff f.acts.length (qG r f))):=by
 refine .of_tree rfl aj4 aEM ?_;have Pb:=hr.cities;have cX:IntKind.i64.wrap ((r.cities.length:Int)-1)=(r.cities.length:Int)-1:=bN (by omega);have Qn:IntKind.i64.wrap (f.bill.parts-1)=f.bill.parts-1:=bN (by omega);simp[Vf];refine nH f.acts.length (qG r f) (fun k=>[.int 0,.int k]) (fun _=>[]) ?_ (fun k hk ho=>?_) (fun k hk ho hb=>?_) (fun hj=>?_)
 ·simp
 case' refine_2=>have hb:qG r f k=qG r f k:=rfl
 case' refine_3=>rw[hb]
 case refine_4=>simp[agN,Mc,hj]
 all_goals
  have hw:=bj hk (by omega);have hs:f.acts.getD k default=f.acts[k]:=by simp[hk]
  clear hb;generalize hX:qG r f k=X at*;unfold qG at hX;simp only[hs] at hX;simp[agN,Mc,hk,cX,Qn,hw];refine⟨_,ej _ _ _,?_⟩;cases a1:wi f.acts[k].part 0 (f.bill.parts-1)
  ·simp[a1] at hX ⊢
   first|exact hX|(exfalso;omega)
  simp[a1] at hX ⊢;refine⟨_,ej _ _ _,?_⟩;rw[my] at hX;cases a2:wi f.acts[k].city 0 ((r.cities.length:Int)-1)
  ·simp[a2] at hX ⊢
   first|exact hX|(exfalso;omega)
  simp[a2] at hX ⊢;refine⟨_,ej _ _ _,?_⟩;cases a3:wi f.acts[k].kind 0 9
  ·simp[a3] at hX ⊢
   first|exact hX|(exfalso;omega)
  simp[a3] at hX ⊢;refine⟨_,aBc r hr f f.acts[k] hl,?_⟩;cases a4:rT r f f.acts[k]
  ·simp[a4] at hX ⊢
   first|exact hX|(exfalso;omega)
  simp[a4] at hX ⊢;unfold xD at hX;by_cases k0:k=0
  ·subst k0;by_cases e1:f.acts[0].at_=-1
   ·simp[e1] at hX;simp[e1];refine⟨_,ej _ _ _,?_⟩;split at hX
    ·rename_i e;simp[e]
     first|exact hX|(exfalso;omega)
    ·rename_i e
     first|(exfalso;omega)|simp[e]
   ·obtain⟨h5,h6⟩:=Xf a4 e1;have h7:f.acts[0].at_.toNat<f.signs.length:=by omega
    have h8:cV f f.acts[0].at_=f.signs[f.acts[0].at_.toNat]:=by simp[cV,h7]
    simp[e1,h8] at hX;simp[e1,h5,h6,h7,Il,Io];refine⟨_,ej _ _ _,?_⟩;split at hX
    ·rename_i e;simp[e]
     first|exact hX|(exfalso;omega)
    ·rename_i e
     first|(exfalso;omega)|simp[e]
  ·have bx:IntKind.i64.wrap ((k:Int)-1)=(k:Int)-1:=bN (by omega);have cn:((k:Int)-1).toNat=k-1:=by omega
   have ls:k-1<f.acts.length:=by omega
   have xl:0<k:=by omega
   by_cases e1:f.acts[k].at_=-1
   ·simp[k0,e1,ls] at hX;simp[e1,xl,bx,cn,ls,Il,Io];refine⟨by omega,_,ej _ _ _,?_⟩;split at hX
    ·rename_i e;simp[e]
     first|exact hX|(exfalso;omega)
    ·rename_i e
     first|(exfalso;omega)|simp[e]
   ·obtain⟨h5,h6⟩:=Xf a4 e1;have h7:f.acts[k].at_.toNat<f.signs.length:=by omega
    have h8:cV f f.acts[k].at_=f.signs[f.acts[k].at_.toNat]:=by simp[cV,h7]
    simp[k0,e1,ls,h8] at hX;simp[e1,xl,bx,cn,ls,h5,h6,h7,Il,Io];refine⟨by omega,_,ej _ _ _,?_⟩;split at hX
    ·rename_i e;simp[e]
     first|exact hX|(exfalso;omega)
    ·rename_i e
     first|(exfalso;omega)|simp[e]
end Rm
namespace Rm
open Go Go.Proofs Cx
def nT (a b:Int):Int:=if a<b then-1 else if b<a then 1 else 0
theorem aaI (a:Int):ao T abU [.int a] (.bool false):=by
 refine .of_tree rfl ajv aD1 ?_;simp[UJ]
theorem WY (a b:Int):ao T abS [.int a,.int b] (.int (nT a b)):=by
 refine .of_tree rfl ajt aDZ ?_;simp[UH];refine⟨_,aaI a,_,aaI b,?_⟩;unfold nT;by_cases h1:a<b
 ·simp[h1]
 by_cases h2:b<a<;>simp[h1,h2]
theorem aiD (l:List Int)(hl:l.length≤100000):ao T abT [ints l] (.int (ff l.length fun k=>l.getD k 0)):=by
 refine .of_tree rfl aju aD0 ?_;simp[UI];refine nH l.length (fun k=>l.getD k 0) (fun k=>[.int 0,.int k]) (fun _=>[]) ?_ (fun k hk ho=>?_) (fun k hk ho hb=>?_) (fun hj=>?_)
 ·simp
 ·have hw:=bj hk (by omega);have hx:l[k]=0:=by simpa [hk] using ho
  simp[SR,CZ,hk,hx,hw]
 ·have hx:¬l[k]=0:=by simpa [hk] using ho
  simp only[List.getD_eq_getElem?_getD] at hb ⊢;rw[hb];simp[SR,CZ,hk,hx]
 ·simp only[List.getD_eq_getElem?_getD] at hj ⊢;rw[hj];simp[SR,CZ]
theorem or2 (a b:Int):(ff 2 fun k=>[a,b].getD k 0)=if a=0 then b else a:=by
 have e:List.range 2=[0,1]:=rfl;unfold ff;rw[e];by_cases ha:a=0<;>by_cases hb:b=0<;>simp[ha,hb]
def wz (x y:Fact):Prop:=x.at_<y.at_∨(x.at_=y.at_∧x.kind<y.kind)
instance (x y:Fact):Decidable (wz x y):=by unfold wz;infer_instance
theorem aiT (x y:Fact):0≤(if nT x.at_ y.at_=0 then nT x.kind y.kind else nT x.at_ y.at_)↔¬wz x y:=by
 unfold nT wz
 repeat' split
 all_goals omega
def ui (f:File)(i:Nat):Int:=
 let x:=f.facts.getD i default
 if wi x.kind 0 4=false then 1 else if aF x.at_ f.signs.length=false then 1 else if wi x.n 0 1=false then 1
 else if i=0 then 0 else if wz (f.facts.getD (i-1) default) x then 0 else 5
theorem aBf (f:File)(hl:f.signs.length≤100000)(hlf:f.facts.length≤100000):ao T acn [cm f] (.int (ff f.facts.length (ui f))):=by
 refine .of_tree rfl aj6 aEO ?_;have cX:IntKind.i64.wrap ((f.signs.length:Int)-1)=(f.signs.length:Int)-1:=bN (by omega);simp[Vh];refine nH f.facts.length (ui f) (fun k=>[.int 0,.int k]) (fun _=>[]) ?_ (fun k hk ho=>?_) (fun k hk ho hb=>?_) (fun hj=>?_)
 ·simp
 case' refine_2=>have hb:ui f k=ui f k:=rfl
 case' refine_3=>rw[hb]
 case refine_4=>simp[agO,Md,hj]
 all_goals
  have hw:=bj hk (by omega);have hs:f.facts.getD k default=f.facts[k]:=by simp[hk]
  clear hb;generalize hX:ui f k=X at*;unfold ui at hX;simp only[hs] at hX;simp[agO,Md,hk,cX,hw];refine⟨_,ej _ _ _,?_⟩;cases a1:wi f.facts[k].kind 0 4
  ·simp[a1] at hX ⊢
   first|exact hX|(exfalso;omega)
  simp[a1] at hX ⊢;refine⟨_,ej _ _ _,?_⟩;rw[my] at hX;cases a2:wi f.facts[k].at_ 0 ((f.signs.length:Int)-1)
  ·simp[a2] at hX ⊢
   first|exact hX|(exfalso;omega)
  simp[a2] at hX ⊢;refine⟨_,ej _ _ _,?_⟩;cases a3:wi f.facts[k].n 0 1
  ·simp[a3] at hX ⊢
   first|exact hX|(exfalso;omega)
  simp[a3] at hX ⊢;by_cases k0:k=0
  ·subst k0;simp at hX ⊢
   first|(exfalso;omega)|done
  ·have bx:IntKind.i64.wrap ((k:Int)-1)=(k:Int)-1:=bN (by omega);have cn:((k:Int)-1).toNat=k-1:=by omega
   have ls:k-1<f.facts.length:=by omega
   simp[k0,ls] at hX;simp[k0,bx,cn,ls];refine⟨by omega,_,WY _ _,_,WY _ _,?_⟩;have ho:=aiD [nT f.facts[k-1].at_ f.facts[k].at_,nT f.facts[k-1].kind f.facts[k].kind] (by simp);simp only[List.length_cons,List.length_nil] at ho;rw[or2] at ho;refine⟨_,ho,?_⟩;have ha:=aiT f.facts[k-1] f.facts[k];generalize (if nT f.facts[k-1].at_ f.facts[k].at_=0 then nT f.facts[k-1].kind f.facts[k].kind else nT f.facts[k-1].at_ f.facts[k].at_)=n at*;clear ho;by_cases e:wz f.facts[k-1] f.facts[k]
   ·have hn:¬0≤n:=fun h=>ha.1 h e;simp[e] at hX;simp[hn]
    first|done|(exfalso;omega)
   ·have hn:0≤n:=ha.2 e;simp[e] at hX;simp[hn]
    first|exact hX|(exfalso;omega)
def wB (f:File)(i:Nat):Int:=
 let x:=f.alters.getD i default
 if wi x.at_ ((if i=0 then 0 else(f.alters.getD (i-1) default).at_)+1) f.signs.length=false then 1 else if wi x.sum 1 1099511627776=false then 3 else 0
structure PaperOK (r:Realm) (f:File):Prop where
 full:(f.signs.length≤40∧f.alters.length≤4)∧f.acts.length≤100∧f.facts.length≤200
 bill:BillOK r f.bill
 ne:f.signs≠[]
 signs:ff f.signs.length (yR r f)=0
 alters:ff f.alters.length (wB f)=0
 acts:ff f.acts.length (qG r f)=0
 facts:ff f.facts.length (ui f)=0
theorem aBb (r:Realm)(hs:Small r)(f:File)(uu:f.OK):∃d,ao T aci [bf r,cm f] d∧nN (PaperOK r f) d:=by
 refine ao.ex_of_tree rfl aj2 aEJ ?_;simp[Vd];by_cases hf:(f.signs.length≤40∧f.alters.length≤4)∧f.acts.length≤100∧f.facts.length≤200
 case neg=>
  rw[if_pos (by omega)];exact .no (fun h=>hf h.full) (by decide)
 rw[if_neg (by omega)];obtain⟨d,hb,e,rfl,he⟩:=aGK r hs f.bill;refine⟨_,hb,?_⟩;by_cases e0:e=0
 case neg=>
  simp[e0];exact .no (fun h=>e0 (he.2 h.bill)) e0
 have Hj:=he.1 e0;simp[e0];by_cases aG:f.signs=[]
 ·simp[aG];exact .no (fun h=>h.ne aG) (by decide)
 simp[aG];refine nH f.signs.length (yR r f) (fun k=>[.int 0,.int k]) (fun _=>[]) ?_ (fun k hk ho=>?_) (fun k hk ho hb=>?_) (fun hj=>?_)
 ·simp
 ·have hw:=bj hk (by omega);simp[SX,C3,hk,hw];refine⟨_,afp r hs f Hj.parts k hk (by omega),?_⟩;simp[ho]
 ·simp[SX,C3,hk];refine⟨_,afp r hs f Hj.parts k hk (by omega),?_⟩;simp[ho];exact .no (fun h=>ho (by rw[←hb];exact h.signs)) ho
 simp[SX,C3];have j9:∀k,k<f.alters.length→(∀j,j<k→wB f j=0)→IntKind.i64.wrap ((if k=0 then 0 else(f.alters.getD (k-1) default).at_)+1)=(if k=0 then 0 else(f.alters.getD (k-1) default).at_)+1:=by
  intro k hk hj;refine bN ?_;by_cases k0:k=0
  ·rw[if_pos k0];omega
  ·rw[if_neg k0];have h1:=hj (k-1) (by omega);have bx:k-1<f.alters.length:=by omega
   have h2:=(uu.2.2.1.2 _ (List.getElem_mem bx)).1;have h3:f.alters.getD (k-1) default=f.alters[k-1]:=by simp[bx]
   unfold wB at h1;rw[h3] at h1 ⊢;simp only at h1;generalize (if k-1=0 then(0:Int) else(f.alters.getD (k-1-1) default).at_)=L0 at h1;split at h1
   ·cases h1
   ·rename_i hh;simp[wi] at hh;unfold aX at h2;omega
 refine aP.scan f.alters.length (fun k=>wB f k=0) (fun k=>[.int 0,.int (if k=0 then 0 else(f.alters.getD (k-1) default).at_),.int k]) (fun _=>[]) ?_ (fun k hk pQ ho=>?_) (fun k hk pQ ho=>?_) (fun BJ=>?_)
 ·simp
 ·have hw:=bj hk (by omega);have hl:=j9 k hk pQ;generalize hL:(if k=0 then 0 else(f.alters.getD (k-1) default).at_)=L at*;have hs:f.alters.getD k default=f.alters[k]:=by simp[hk]
  unfold wB at ho;simp only[hs,hL] at ho;simp[SY,C4,hk,hl];refine⟨_,ej _ _ _,?_⟩;cases a1:wi f.alters[k].at_ (L+1) f.signs.length
  ·simp[a1] at ho
  simp[a1] at ho ⊢;refine⟨_,ej _ _ _,?_⟩;simp[ho,hw]
 ·have hl:=j9 k hk pQ;have BE:=OI hk pQ ho;generalize hL:(if k=0 then 0 else(f.alters.getD (k-1) default).at_)=L at*;have hs:f.alters.getD k default=f.alters[k]:=by simp[hk]
  have bad:∀e:Int,e≠0→nN (PaperOK r f) (.int e):=fun e h=>.no (fun h=>ho (by rw[←BE];exact h.alters)) h;unfold wB at ho;simp only[hs,hL] at ho;simp[SY,C4,hk,hl];refine⟨_,ej _ _ _,?_⟩;cases a1:wi f.alters[k].at_ (L+1) f.signs.length
  ·simp;exact bad 1 (by decide)
  simp[a1] at ho ⊢;refine⟨_,ej _ _ _,?_⟩;simp[ho];exact bad 3 (by decide)
 have BJ:=OJ BJ;simp[SY,C4];refine⟨_,aBd r hs f Hj.parts (by omega) (by omega),?_⟩;by_cases e3:ff f.acts.length (qG r f)=0
 case neg=>
  simp[e3];exact .no (fun h=>e3 h.acts) e3
 simp[e3];refine⟨_,aBf f (by omega) (by omega),?_⟩;exact⟨_,rfl,fun h=>⟨hf,Hj,aG,hj,BJ,e3,h⟩,fun h=>h.facts⟩
end Rm
namespace Rm
open Go Go.Proofs Cx
abbrev A5 (t:Bool×Int):D:=.agg [.bool t.1,.int t.2]
theorem Ep (l:List Int)(hl:l.length≤100000):ao T Ip [ints l] (.int (gj l)):=by
 refine .of_tree rfl ajC aD8 ?_;simp[UP,gj];refine⟨_,qD l 0 (by omega),?_⟩;cases hasB l 0
 ·simp;refine⟨_,qD l 2 (by omega),?_⟩;cases hasB l 2<;>simp
 ·simp
theorem ah7 (s:Said)(a:Int):ao T ab1 [kG s,.int a] (.int (gV s a)):=by
 refine .of_tree rfl ajE aEa ?_;simp[UR];refine⟨_,Nq s,?_⟩;unfold gV;generalize iM s=t;by_cases h1:t=0
 ·simp[h1]
 by_cases h2:a=1
 ·simp[h2]
 by_cases h3:t=2<;>simp[h1,h2,h3]
theorem aiE (c:City)(hc:tF c)(d n:Int):ao T abL [fy c,.int d,.int n] (.tup [.int (yh c d n).1,.int (yh c d n).2]):=by
 refine .of_tree rfl ajn aDS ?_;simp[UB];refine⟨_,yY d,?_⟩;unfold yh;by_cases h0:dV d=false∨n<0∨20000<n
 ·have eC:(dV d=false∨n<0)∨20000<n:=by
   rcases h0 with h|h|h
   ·exact .inl (.inl h)
   ·exact .inl (.inr h)
   ·exact .inr h
  simp[h0,eC]
 have eC:¬((dV d=false∨n<0)∨20000<n):=fun h=>h0 (by
  rcases h with(h|h)|h
  ·exact .inl h
  ·exact .inr (.inl h)
  ·exact .inr (.inr h))
 have hd:dV d=true:=by
  cases e:dV d
  ·exact absurd (.inl e) h0
  ·rfl
 obtain⟨N,rfl⟩:=Int.eq_ofNat_of_zero_le (show 0≤n by omega);have h0n:¬((N:Int)<0∨20000<(N:Int)):=by omega
 simp[hd,h0n];have eD:0≤d∧d≤100000:=by simpa [dV] using hd
 generalize hX:yi c N d=X;refine aP.forLoop (α:=Nat×Int) (fun s vr vo=>(s.1≤N∧(0≤s.2∧s.2≤100000)∧yi c (N-s.1) s.2=X)∧vr=[.int s.2,.int 0,.int 0,.int s.1]∧vo=[]) (fun s=>N-s.1) (0,d) ?_ ?_
 ·simp;exact⟨eD,hX⟩
 rintro⟨k,e⟩ vr vo ⟨⟨hk,he,hx⟩,rfl,rfl⟩;simp only at hk he hx ⊢;by_cases ak:k<N
 ·have hw:IntKind.i64.wrap ((k:Int)+1)=(k:Int)+1:=bN (by omega);have cX:IntKind.i64.wrap (e+1)=e+1:=bN (by omega);obtain⟨m,hm⟩:∃m,N-k=m+1:=⟨N-k-1,by omega⟩
  rw[hm] at hx;unfold yi at hx;simp[agH,L6,ak,hw,cX];refine⟨_,W7 c hc (e+1),?_⟩;by_cases hn:(fT c (e+1)).2=0
  ·have hi:=adC hn;rw[if_neg (by simpa using hn)] at hx;simp[hn];refine⟨k+1,by omega,(fT c (e+1)).1,⟨by omega,by omega,?_⟩,rfl,by simp⟩;rw[show N-(k+1)=m from by omega];exact hx
  ·rw[if_pos hn] at hx;simp[hn,←hx]
 ·obtain rfl:k=N:=by omega
  simp[yi] at hx;simp[agH,L6,←hx]
theorem wF (v:DView)(hr:Right v.realm)(hf:FewS v.file)(q:Int):ao T QV [bY v,.int q] (kG (v.asked q)):=by
 refine .of_tree rfl ajF aEb ?_;simp[US];refine⟨_,Np v.realm hr v.forum q ⟨v.file,v.sign,v.sign,-1,v.due,v.day⟩ hf,?_⟩;simp[DView.asked]
theorem apu (v:DView)(hc:∀c,c∈v.realm.cities→tF c)(hp:aF v.file.bill.pay v.realm.cities.length=true)(s:Said)(fr:Int):ao T Iq [bY v,kG s,.int fr] (A5 (dG v.city s fr)):=by
 refine .of_tree rfl ajG aEc ?_;have aS:0≤v.file.bill.pay∧v.file.bill.pay<v.realm.cities.length:=by simpa [aF] using hp
 have ak:v.file.bill.pay.toNat<v.realm.cities.length:=by omega
 have avj:v.city=v.realm.cities[v.file.bill.pay.toNat]:=by simp[DView.city,ak]
 unfold dG;by_cases h1:s.err=0
 case neg=>simp[D6,h1,never]
 cases h2:s.cell.known
 ·simp[D6,h1,h2];rfl
 simp[D6,h1,h2,aS,ak];refine⟨_,aiE v.realm.cities[v.file.bill.pay.toNat] (hc _ (List.getElem_mem ak)) fr s.cell.n,?_⟩;rw[avj];by_cases h3:(yh v.realm.cities[v.file.bill.pay.toNat] fr s.cell.n).2=0<;>simp[h3,never]
theorem Up (v:DView)(on:Int)(t:Bool×Int):ao T QZ [bY v,.int on,A5 t] (.int (rM v.day on t)):=by
 refine .of_tree rfl ajO aEk ?_;unfold rM;obtain⟨t1,t2⟩:=t;cases t1
 ·simp[MV]
 simp[MV];by_cases h1:on=-1
 ·by_cases h2:t2<v.day<;>simp[h1,h2]
 ·by_cases h2:on≤t2<;>simp[h1,h2]
theorem OL (v:DView)(hf:FewS v.file)(kind fr:Int):ao T QW [bY v,.int kind,.int fr] (.int (uk v.file.bill v.file.acts kind fr)):=by
 refine .of_tree rfl ajI aEe ?_;have hl:=hf.acts;simp[UU];unfold uk;refine aP.scan v.file.acts.length (fun k=>Ba v.file.bill kind fr (v.file.acts.getD k default)=false) (fun k=>[.int 0,.int k]) (fun _=>[]) ?_ (fun k hk hj aE=>?_) (fun k hk hj aE=>?_) (fun hj=>?_)
 ·simp
 ·have hw:=bj hk (by omega);have hn:¬((v.file.acts[k].kind=kind∧v.file.acts[k].to=v.file.bill.drawee)∧fr≤v.file.acts[k].day):=by simpa [Ba,hk] using aE
  simp[SV,C1,hk,hw,hn]
 ·have j7:=uj hk (by simpa [hk] using aE) (fun j bF=>by have:=hj j bF;simpa [show j<v.file.acts.length by omega] using this);have hc:(v.file.acts[k].kind=kind∧v.file.acts[k].to=v.file.bill.drawee)∧fr≤v.file.acts[k].day:=by simpa [Ba,hk,and_assoc] using aE
  rw[j7];simp[SV,C1,hk,hc]
 ·have j7:=wV (l:=v.file.acts) (p:=Ba v.file.bill kind fr) (fun j bF=>by have:=hj j bF;simpa [bF] using this);rw[j7];simp[SV,C1]
theorem ag5 (v:DView)(hf:FewS v.file):ao T QX [bY v] (.int v.refused):=by
 refine .of_tree rfl ajM aEi ?_;simp[UZ];refine⟨_,OL v hf 1 0,?_⟩;unfold DView.refused DQ;by_cases h:v.due<uk v.file.bill v.file.acts 1 0<;>simp[h]
theorem On (v:DView)(hf:FewS v.file):ao T ab2 [bY v] (.int v.dishon):=by
 refine .of_tree rfl ajH aEd ?_;simp[UT];refine⟨_,ag5 v hf,?_⟩;unfold DView.dishon Yc DView.refused;by_cases h:DQ v.file.bill v.file.acts v.due=-1<;>simp[h]
theorem ahC (v:DView)(hr:Right v.realm)(hf:FewS v.file)(hb:0≤v.file.bill.day∧v.file.bill.day≤100000):ao T QY [bY v] (A5 v.show_):=by
 refine .of_tree rfl ajN aEj ?_;simp[U0];refine⟨_,Xo v.realm hr v.forum 7 v.file v.day hf,?_⟩;unfold DView.show_ ahB;have hq:(lV 7).1=0:=by decide
 have sH:=fun hk=>ajb v.realm v.forum 7 ⟨{v.file with facts:=[]},0,-1,-1,-1,v.day⟩ hq hk;change (ju v.realm v.forum 7 v.file v.day).cell.known=true→0≤(ju v.realm v.forum 7 v.file v.day).cell.n∧(ju v.realm v.forum 7 v.file v.day).cell.n≤20000 at sH;generalize ju v.realm v.forum 7 v.file v.day=s at*;by_cases h1:s.err=0
 case neg=>simp[h1,never]
 cases h2:s.cell.known
 ·simp[h1,h2];rfl
 have oB:=sH h2;have hw:IntKind.i64.wrap (v.file.bill.day+s.cell.n)=v.file.bill.day+s.cell.n:=bN (by omega);by_cases h3:100000<v.file.bill.day+s.cell.n<;>simp[h1,h2,h3,hw,never]
end Rm
namespace Rm
open Go Go.Proofs Cx
@[simp] theorem aiS (a b:D):(D.agg [a,b]).c 1=b:=_root_.id rfl
structure DRun (v:DView):Prop where
 right:Right v.realm
 few:FewS v.file
 cities:∀c,c∈v.realm.cities→tF c
 pay:aF v.file.bill.pay v.realm.cities.length=true
 day:0≤v.file.bill.day∧v.file.bill.day≤100000
theorem DRun.days {v:DView}(h:DRun v)(s:Said)(fr:Int):ao T Iq [bY v,kG s,.int fr] (A5 (dG v.city s fr)):=apu v h.cities h.pay s fr
theorem aBs (v:DView)(h:DRun v):ao T ab4 [bY v] (.int v.presented):=by
 refine .of_tree rfl ajK aEg ?_;have pY:=h.few.signs;have Zj:=h.few.acts;generalize hX:v.presented=X;unfold DView.presented at hX;simp[UX];by_cases k0:v.file.bill.tenor.kind=0
 ·rw[if_pos k0] at hX;simp[k0];refine⟨_,OL v h.few 2 0,_,ahC v h.right h.few h.day,?_⟩;rw[←hX];exact Up v _ _
 rw[if_neg k0] at hX;simp[k0];have HU:v.seen_=if v.file.bill.tenor.kind=1 then rM v.day (lP v.file) v.show_ else 1:=rfl;have HR:ao T QY [bY v] (A5 v.show_):=ahC v h.right h.few h.day;have rest:∀s:Int,v.seen_=s→(∃d,ao (cR tab ext) QX [bY v] d∧
  if d.i=-1 then
        if v.due=-1 then ao (cR tab ext) Ip [D.list [D.int s,D.int 2]] (D.int X)
        else ∃d,ao (cR tab ext) QW [bY v,D.int 2,D.int v.due] d∧∃X4,ao (cR tab ext) QV [bY v,D.int 10] X4∧
         ∃X5,ao (cR tab ext) Iq [bY v,X4,D.int v.due] X5∧∃rY,ao (cR tab ext) QZ [bY v,d,X5] rY∧ao (cR tab ext) Ip [D.list [D.int s,rY]] (D.int X)
  else D.int s=D.int X):=by
  intro s hs;rw[hs] at hX;refine⟨_,ag5 v h.few,?_⟩;simp only[GS];by_cases h1:v.refused=-1
  ·rw[if_neg (by simpa using h1)] at hX;rw[if_pos h1];by_cases h2:v.due=-1
   ·rw[if_pos h2] at hX ⊢;rw[←hX];exact Ep [s,2] (by simp)
   ·rw[if_neg h2] at hX ⊢;refine⟨_,OL v h.few 2 v.due,_,wF v h.right h.few 10,_,h.days _ _,_,Up v _ _,?_⟩;rw[←hX];exact Ep [s,_] (by simp)
  ·rw[if_pos h1] at hX;rw[if_neg h1,hX]
 by_cases k1:v.file.bill.tenor.kind=1
 ·rw[if_pos k1] at HU;simp[k1];refine⟨_,ag3 v.file (by omega) (by omega),_,HR,_,Up v _ _,?_⟩;exact rest _ HU
 ·rw[if_neg k1] at HU;have hr:=rest _ HU;simp only[apP] at hr;simp[k1];exact hr
theorem aBv (v:DView)(h:DRun v):ao T ab5 [bY v] (.int v.protested):=by
 refine .of_tree rfl ajL aEh ?_;have Zj:=h.few.acts;generalize hX:v.protested=X;unfold DView.protested at hX;simp[UY];refine⟨_,On v h.few,_,wF v h.right h.few 10,_,h.days _ _,?_⟩;generalize dG v.city (v.asked 10) v.dishon=t at*;obtain⟨t1,t2⟩:=t;cases t1
 ·simpa using hX
 simp at hX ⊢;refine aP.forLoop (α:=Nat×Int) (fun s vr vo=>(s.1≤v.file.acts.length∧lJ v.file.bill v.dishon t2 (iM (v.asked 9)) (v.file.acts.drop s.1) s.2=X)∧vr=[.int 0,.int s.2,.int s.1]∧vo=[]) (fun s=>v.file.acts.length-s.1) (0,if v.day≤t2 then 2 else 0) ?_ ?_
 ·simp;refine⟨hX,?_⟩;split<;>rfl
 rintro⟨k,b⟩ vr vo ⟨⟨hk,hx⟩,rfl,rfl⟩;simp only at hk hx ⊢;by_cases ak:k<v.file.acts.length
 ·have hw:=bj ak (by omega);rw[List.drop_eq_getElem_cons ak] at hx;unfold lJ at hx;simp[agL,Ma,ak,hw];generalize v.file.acts[k]=a at*;by_cases h1:((¬a.kind=4∨¬a.to=v.file.bill.drawee)∨a.day<v.dishon)∨t2<a.day
  ·rw[if_pos (by simpa [or_assoc] using h1)] at hx;rw[if_pos h1];exact⟨k+1,by omega,b,⟨by omega,hx⟩,rfl,by simp⟩
  rw[if_neg (by simpa [or_assoc] using h1)] at hx;rw[if_neg h1];by_cases h2:a.form=1
  ·rw[if_pos h2] at hx ⊢;refine⟨_,wF v h.right h.few 9,_,Nq _,?_⟩;simp only[GS];by_cases h3:iM (v.asked 9)=1
   ·rw[if_pos h3] at hx ⊢;exact hx
   ·rw[if_neg h3] at hx ⊢;refine⟨k+1,by omega,_,⟨by omega,hx⟩,?_,by simp⟩;split<;>rfl
  ·rw[if_neg h2] at hx ⊢;exact hx
 ·obtain rfl:k=v.file.acts.length:=by omega
  simp[lJ] at hx;simp[agL,Ma,←hx]
theorem azL (v:DView)(h:DRun v)(hs:0≤v.sign∧v.sign<v.file.signs.length):ao T ab3 [bY v] (.int v.notified):=by
 refine .of_tree rfl ajJ aEf ?_;have Zj:=h.few.acts;have ak:v.sign.toNat<v.file.signs.length:=by omega
 have uW:v.who=v.file.signs[v.sign.toNat].who:=by simp[DView.who,cV,ak]
 generalize hX:v.notified=X;unfold DView.notified at hX;simp[UW];refine⟨_,On v h.few,_,wF v h.right h.few 12,?_⟩;simp;refine⟨_,h.days _ _,?_⟩;have su:=fun d=>h.days (v.asked 12) d;generalize v.asked 12=said at*;generalize Bz:dG v.city said v.dishon=t at*;obtain⟨t1,t2⟩:=t;cases t1
 ·simpa using hX
 simp at hX ⊢;generalize hN:rq (fun d=>(dG v.city said d).2) v.dishon t2 v.who v.file.acts [] t2=N at hX;refine aP.forLoop (α:=Nat×List Act×Int) (fun s vr vo=>(s.1≤v.file.acts.length∧s.2.1.length≤s.1∧rq (fun d=>(dG v.city said d).2) v.dishon t2 v.who (v.file.acts.drop s.1) s.2.1 s.2.2=N)∧vr=[.int 0,.int s.2.2,.none,.int s.1]∧vo=[acts s.2.1]) (fun s=>v.file.acts.length-s.1) (0,[],t2) ?_ ?_
 ·simp[acts];exact hN
 rintro⟨k,ja,last⟩ vr vo ⟨⟨hk,hg,hx⟩,rfl,rfl⟩;simp only at hk hg hx ⊢;by_cases HC:k<v.file.acts.length
 ·have hw:=bj HC (by omega);rw[List.drop_eq_getElem_cons HC] at hx;unfold rq at hx;simp[agK,L9,HC,hw,ak,hs];have m4:v.file.acts[k]?=some v.file.acts[k]:=by simp[HC]
  generalize v.file.acts[k]=a at*;by_cases h1:a.kind=5
  case neg=>
   rw[if_pos h1] at hx;rw[if_neg h1];exact⟨k+1,by omega,ja,last,⟨by omega,by omega,hx⟩,by simp⟩
  rw[if_neg (by simpa using h1)] at hx;rw[if_pos h1];refine aP.forRounds ja.length (fun j=>[.bool ((decide (v.dishon≤a.day)&&decide (a.day≤t2))||(ja.take j).any fun b=>decide (b.to=a.who)&&decide (a.day≤(dG v.city said b.day).2)),.int j]) (fun _=>[]) ?_ (fun j hj=>?_) ?_
  ·simp[m4];by_cases e:v.dishon≤a.day<;>simp[e]
  ·have q8:=bj hj (by omega);rw[List.take_succ_eq_append_getElem hj,List.any_append,←Bool.or_assoc];generalize ((decide (v.dishon≤a.day)&&decide (a.day≤t2))||(ja.take j).any fun b=>decide (b.to=a.who)&&decide (a.day≤(dG v.city said b.day).2))=A;simp[agJ,L8,hj,q8,m4];cases A
   ·by_cases e:ja[j].to=a.who
    ·simp[e];exact⟨_,su ja[j].day,by simp⟩
    ·simp[e]
   ·simp
  ·simp[agJ,L8,m4,hs,ak];have Z6:Iw (fun d=>(dG v.city said d).2) v.dishon t2 ja a=true↔(v.dishon≤a.day∧a.day≤t2∨∃x,x∈ja∧x.to=a.who∧a.day≤(dG v.city said x.day).2):=by simp[Iw]
   by_cases h2:Iw (fun d=>(dG v.city said d).2) v.dishon t2 ja a=true
   ·rw[if_neg (by simp[h2])] at hx;rw[if_pos (Z6.1 h2)];rw[uW] at hx;by_cases h3:a.to=v.file.signs[v.sign.toNat].who
    ·rw[if_pos h3] at hx ⊢;rw[←hx] at hX;simpa using hX
    ·rw[if_neg h3] at hx ⊢;refine⟨by omega,_,su a.day,k+1,by omega,ja++[a],max last (dG v.city said a.day).2,⟨by omega,by simp;omega,?_⟩,⟨?_,by simp⟩,by simp[acts]⟩
     ·rw[←hx,uW]
     ·simp only[aiS,GS];exact Il _ _
   ·rw[if_pos (by simpa using h2)] at hx;rw[if_neg (fun e=>h2 (Z6.2 e))];exact⟨k+1,by omega,ja,last,⟨by omega,by omega,hx⟩,⟨rfl,by simp⟩,rfl⟩
 ·obtain rfl:k=v.file.acts.length:=by omega
  simp[rq] at hx;rw[←hx] at hX;simp[agK,L9];by_cases e:last<v.day
  ·rw[if_neg (by simp),if_pos e] at hX;simp[e,hX]
  ·rw[if_neg (by simp),if_neg e] at hX;simp[e,hX]
theorem abb (r:Realm)(hr:Right r)(hd:RightD r)(forum:Int)(f:File)(sign day:Int)(hf:FewS f):ao T ab0 [bf r,.int forum,cm f,.int sign,.int day] (bY (jM r forum f sign day)):=by
 refine .of_tree rfl ajD aD9 ?_;simp[UQ];refine⟨_,TQ f day (by have:=hf.signs;omega) (by have:=hf.acts;omega) (by have:=hf.alters;omega) (by have:=hf.facts;omega),_,W6 r hr hd forum f day hf,?_⟩;simp;rfl
theorem axS (r:Realm)(hr:Right r)(hd:RightD r)(forum:Int){f:File}(sign day:Int)(hf:FewS f)(hp:aF f.bill.pay r.cities.length=true)(hb:0≤f.bill.day∧f.bill.day≤100000):DRun (jM r forum f sign day):=
 ⟨hr,hf.at_ day,hd.cities,hp,hb⟩
theorem M9 (r:Realm)(hr:Right r)(hd:RightD r)(forum:Int)(f:File)(day:Int)(hf:FewS f):ao T abY [bf r,.int forum,cm f,.int day] (.int (AR r forum f day)):=by
 refine .of_tree rfl ajA aD6 ?_;simp[UN];exact⟨_,abb r hr hd forum f 0 day hf,On _ (hf.at_ day)⟩
@[simp] theorem aNw (x:DView)(a0 a1 a2 a3 a4 a5 a6 a7 a8 a9 iS iT iU iV iW jV jW jX kE tT tU tV tW tX y8 y9 za zb zc zd ze:D):(db [a0,a1,a2,a3,a4,a5,a6,a7,a8,a9,iS,iT,iU,iV,iW,jV,jW,jX,kE,tT,tU,tV,tW,tX,y8,y9,za,zb,zc,zd,ze] 0 [strs x.realm.currencies,lj x.realm.cities,groups x.realm.groups,firms x.realm.firms,orders x.realm.orders,usances x.realm.usances,rates x.realm.rates,halts x.realm.halts,.int x.forum,.int x.file.bill.drawer,.int x.file.bill.drawee,.int x.file.bill.payee,.int x.file.bill.sum,.int x.file.bill.currency,.int x.file.bill.tenor.kind,.int x.file.bill.tenor.n,.int x.file.bill.tenor.unit,.int x.file.bill.day,.int x.file.bill.city,.int x.file.bill.pay,.int x.file.bill.need,.int x.file.bill.rate,.int x.file.bill.flags,.int x.file.bill.parts,signs x.file.signs,alters x.file.alters,acts x.file.acts,facts x.file.facts,.int x.sign,.int x.day,.int x.due])[24]?.getD D.none=signs x.file.signs:=_root_.id rfl
@[simp] theorem aNx (x:DView)(a0 a1 a2 a3 a4 a5 a6 a7 a8 a9 iS iT iU iV iW jV jW jX kE tT tU tV tW tX y8 y9 za zb zc zd ze:D):(db [a0,a1,a2,a3,a4,a5,a6,a7,a8,a9,iS,iT,iU,iV,iW,jV,jW,jX,kE,tT,tU,tV,tW,tX,y8,y9,za,zb,zc,zd,ze] 0 [strs x.realm.currencies,lj x.realm.cities,groups x.realm.groups,firms x.realm.firms,orders x.realm.orders,usances x.realm.usances,rates x.realm.rates,halts x.realm.halts,.int x.forum,.int x.file.bill.drawer,.int x.file.bill.drawee,.int x.file.bill.payee,.int x.file.bill.sum,.int x.file.bill.currency,.int x.file.bill.tenor.kind,.int x.file.bill.tenor.n,.int x.file.bill.tenor.unit,.int x.file.bill.day,.int x.file.bill.city,.int x.file.bill.pay,.int x.file.bill.need,.int x.file.bill.rate,.int x.file.bill.flags,.int x.file.bill.parts,signs x.file.signs,alters x.file.alters,acts x.file.acts,facts x.file.facts,.int x.sign,.int x.day,.int x.due])[30]?.getD D.none=.int x.due:=_root_.id rfl
@[simp] theorem aOe (a0 a1 a2 a3 x:D):db [a0,a1,a2,a3] 0 [x]=[x,a1,a2,a3]:=_root_.id rfl
@[simp] theorem aOf (a0 a1 a2 a3 x:D):db [a0,a1,a2,a3] 1 [x]=[a0,x,a2,a3]:=_root_.id rfl
@[simp] theorem aOg (a0 a1 a2 a3 x:D):db [a0,a1,a2,a3] 2 [x]=[a0,a1,x,a3]:=_root_.id rfl
theorem Eh (r:Realm)(hr:Right r)(hd:RightD r)(forum:Int)(f:File)(sign day:Int)(hf:FewS f)(hp:aF f.bill.pay r.cities.length=true)(hb:0≤f.bill.day∧f.bill.day≤100000):
 ao T abZ [bf r,.int forum,cm f,.int sign,.int day] (nZ (ix r forum f sign day)):=by
 refine .of_tree rfl ajB aD7 ?_;have hR:=axS r hr hd forum sign day hf hp hb;have awW:(jM r forum f sign day).sign=sign:=rfl;unfold ix;simp[UO];refine⟨_,abb r hr hd forum f sign day hf,?_⟩;generalize jM r forum f sign day=v at*;subst awW;simp;unfold DView.kept;by_cases h1:v.sign<0∨(v.file.signs.length:Int)≤v.sign
 ·rw[if_pos h1,if_pos h1];rfl
 rw[if_neg h1,if_neg h1];refine⟨_,aBs v hR,?_⟩;simp;by_cases h2:v.due=-1
 ·simp[h2];refine⟨_,Ep [v.presented,2,2] (by simp),?_⟩;rfl
 ·simp[h2];refine⟨_,wF v hR.right hR.few 8,_,aBv v hR,_,ah7 _ _,_,wF v hR.right hR.few 11,_,azL v hR ⟨by omega,by omega⟩,_,ah7 _ _,?_⟩;simp;refine⟨_,Ep [_,_,_] (by simp),?_⟩;rfl
end Rm
