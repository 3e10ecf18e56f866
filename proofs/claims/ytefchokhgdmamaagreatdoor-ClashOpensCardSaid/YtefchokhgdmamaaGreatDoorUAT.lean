/-
  Clash: when all facts are set, all is known; so where it is open whether courts differ there is a turn.
-/
import Derived.Test.YtefchokhgdmamaaGreatDoorUAR
set_option linter.unusedSimpArgs false
set_option linter.unusedVariables false
namespace Rm
open Go Go.Proofs Cx
def Fx (cs:List Cell):Prop:=20≤cs.length∧∀i,i<20→(aJ cs i).known=true
theorem vF (b:Bool):(eB b).known=true:=by cases b<;>rfl
theorem arp {cs:List Cell}(h:Fx cs)(v:Int)(hv:0≤v∧v≤19):(jt cs v).known=true:=by
 have hk:=h.2 v.toNat (by omega);have V6:=h.1;unfold jt;unfold aJ at hk;unfold cellAt;rw[if_neg (by rw[hk];simp;omega)];split
 ·exact vF _
 ·rfl
theorem BP {l:List Cell}(op:Int)(h0:(aJ l 0).known=true)(h1:op≠3→(aJ l 1).known=true)(h6:op≠6):(fw op l).known=true:=by
 unfold fw;by_cases o3:op=3
 ·rw[if_pos o3,if_pos h0];exact vF _
 rw[if_neg o3];split
 ·exact vF _
 rw[if_neg (by rw[h0,h1 o3];simp)];split
 ·exact vF _
 split
 ·exact vF _
 split
 ·exact vF _
 ·rfl
theorem Vw:∀{L:Nat} {t:Tm} {k:Int} {cs:List Cell},Fx cs→bM L t=(k,0)→cP L t≤60→(be L cs t).known=true
 |0,t,k,cs,hc,h,hm=>by simp[cP] at hm
 |L+1,t,k,cs,hc,h,hm=>by
  obtain⟨hn,_⟩:=BN h;obtain⟨ha,_⟩:=BM h;obtain⟨_,Ih⟩:=I1 hm;have ih:∀a,a∈t.args→(be L cs a).known=true:=fun a cA=>Vw hc (show bM L a=((bM L a).1,0) by rw[←ha a cA]) (Ih a cA);have ir:∀a,a∈t.args→sl (bM L a).1 (be L cs a):=fun a cA=>Hk cs (show bM L a=((bM L a).1,0) by rw[←ha a cA])
  have get:∀i,i<t.args.length→(aJ (t.args.map (be L cs)) i).known=true:=fun i hi=>by
   rw[L9 _ _ _ hi];exact ih _ (dJ hi)
  rw[wq];cases hn with
  |int h0=>rw[if_pos (.inl h0)]
  |bool h0=>rw[if_pos (.inr h0)]
  |var h0 _ hn=>rw[if_neg (by omega),if_pos h0];exact arp hc _ hn
  |not h0 hk=>
   have hl:t.args.length=1:=by have:=congrArg List.length hk;simpa using this
   rw[if_neg (by omega),if_neg (by omega),if_neg (by omega)];exact BP _ (get 0 (by omega)) (by omega) (by omega)
  |log h0 hk=>
   have hl:t.args.length=2:=by have:=congrArg List.length hk;simpa using this
   rw[if_neg (by omega),if_neg (by omega),if_neg (by omega)];exact BP _ (get 0 (by omega)) (fun _=>get 1 (by omega)) (by omega)
  |ite k h0 hk=>
   obtain⟨a,b,c,hl,e1,e2,e3⟩:=DQ hk;have h3:t.args.length=3:=by rw[hl];rfl
   have g0:=get 0 (by omega);rw[if_neg (by omega),if_neg (by omega),if_pos ⟨h0,g0⟩];have hr:=ir a (by rw[hl];simp);rw[e1] at hr;have lX:aJ (t.args.map (be L cs)) 0=be L cs a:=by rw[hl];rfl
   rw[lX] at g0;rcases(hr.2 g0).1 rfl with e|e
   ·rw[lX,e];exact get 2 (by omega)
   ·rw[lX,e];exact get 1 (by omega)
  |less h0 hk=>
   have hl:t.args.length=2:=by have:=congrArg List.length hk;simpa using this
   rw[if_neg (by omega),if_neg (by omega),if_neg (by omega)];exact BP _ (get 0 (by omega)) (fun _=>get 1 (by omega)) (by omega)
  |equal k h0 hk=>
   have hl:t.args.length=2:=by have:=congrArg List.length hk;simpa using this
   rw[if_neg (by omega),if_neg (by omega),if_neg (by omega)];exact BP _ (get 0 (by omega)) (fun _=>get 1 (by omega)) (by omega)
  |num h0 hk=>
   have hl:t.args.length=2:=by have:=congrArg List.length hk;simpa using this
   rw[if_neg (by omega),if_neg (by omega),if_neg (by omega)];exact BP _ (get 0 (by omega)) (fun _=>get 1 (by omega)) (by omega)
theorem ado {cs:List Cell}(h:Fx cs)(o:Order)(ask:Int)(he:(mC o ask cs).2=0):(mC o ask cs).1.known=true:=by
 unfold mC at he ⊢;by_cases e:(findF o ask).2≠0
 ·rw[if_pos e] at he;exact absurd he e
 rw[if_neg e];have bI:(oq cs (findF o ask).1).known=true:=by
  have oz:(mE (findF o ask).1).2=0:=by
   unfold findF at e ⊢;split
   ·rename_i h;rw[if_pos h] at e;exact absurd (by decide) e
   rename_i h1;rw[if_neg h1] at e;split
   ·rename_i h;rw[if_pos h] at e;exact absurd (by decide) e
   rename_i h2;rw[if_neg h2] at e;split
   ·rename_i h;rw[if_pos h] at e;exact absurd (by decide) e
   rename_i h3;exact vK fun hh=>h3 (.inl hh)
  unfold oq;rw[if_pos oz];obtain⟨h1,h2⟩:=Ma oz;exact Vw h h2 h1
 show(if _ then _ else _:Cell).known=true;split
 ·rfl
 ·exact bI
structure FactsK (c:Case):Prop where
 sign:∀k,k=0∨k=1∨k=2→(bF (bL c).file k c.sign).known=true
 holder:∀k,k=3∨k=4→(bF (bL c).file k (df c)).known=true
theorem art (r:Realm){c:Case}(h:FactsK c)(hv:eA r (bL c)≠[]):Fx (eA r (bL c)):=by
 unfold eA at hv ⊢;split
 case isFalse hh=>rw[if_neg hh] at hv;exact absurd rfl hv
 generalize (bL c).file.signs.getD (bL c).sign.toNat default=s;have a0:=h.sign 0 (by omega);have a1:=h.sign 1 (by omega);have a2:=h.sign 2 (by omega);have a3:=h.holder 3 (by omega);have a4:=h.holder 4 (by omega)
 have e:pI r (bL c) s=(lJ (bL c) s).map (fun p=>⟨true,p.2⟩)++(mm r (bL c) s).map (fun p=>eB p.2)++
  [bF (bL c).file 0 c.sign,bF (bL c).file 1 c.sign,bF (bL c).file 2 c.sign,bF (bL c).file 3 (df c),bF (bL c).file 4 (df c)]:=rfl
 rw[e];generalize bF (bL c).file 0 c.sign=f0 at*;generalize bF (bL c).file 1 c.sign=f1 at*;generalize bF (bL c).file 2 c.sign=f2 at*;generalize bF (bL c).file 3 (df c)=f3 at*;generalize bF (bL c).file 4 (df c)=f4 at*;refine⟨by simp[lJ,mm],fun i hi=>?_⟩;unfold lJ mm;rcases i with _|_|_|_|_|_|_|_|_|_|_|_|_|_|_|_|_|_|_|_|i<;>simp[aJ,vF,a0,a1,a2,a3,a4];omega
theorem UC {r:Realm}(hr:Right r)(aL q:Int){c:Case}(h:FactsK c)(he:(kV r aL q c).err=0):(kV r aL q c).cell.known=true:=by
 unfold kV at he ⊢;split
 ·rename_i ho;rw[if_pos ho] at he;exfalso;unfold eV at he ho;split at he
  ·cases he
  rename_i h1;rw[if_neg h1] at ho;split at he
  ·cases he
  rename_i h2;rw[if_neg h2] at ho;split at he
  ·cases he
  rename_i h3;rw[if_neg h3] at ho;have he:(ij r aL q (gz r aL (bL c))).2=0:=he;have ho:(if(ij r aL q (gz r aL (bL c))).2=0 then dE (ij r aL q (gz r aL (bL c))).1 else-1)=-1:=ho;rw[if_pos he] at ho;have fF:=PV r aL (bL c);have:=OJ hr (a:=aL) (q:=q) (l:=gz r aL (bL c)) (by omega) he;omega
 ·rename_i ho;rw[if_neg ho] at he;have hv:eA r (bL c)≠[]:=fun e=>ho (by unfold eV;rw[if_pos e];rfl);have hc:(eV r aL q c).2=eA r (bL c):=by
   unfold eV at ho ⊢;rw[if_neg hv] at ho ⊢;split
   ·rename_i h;rw[if_pos h] at ho;exact absurd rfl ho
   rename_i h;rw[if_neg h] at ho;split
   ·rename_i h2;rw[if_pos h2] at ho;exact absurd rfl ho
   ·rfl
  exact ado (by rw[hc];exact art r h hv) _ _ he
theorem OH (f:File)(k s:Int):(bF f k s).known=true↔∃y,y∈f.facts∧eG k s y=true:=by
 unfold bF;cases h:f.facts.find? (eG k s) with
 |none=>
  simp only[amu,tK,false_iff];rintro⟨y,hy,hb⟩;exact nZ.1 h y hy hb
 |some x=>exact⟨fun _=>⟨x,qL h,x9 h⟩,fun _=>vF _⟩
theorem O4 {l:List Fact}{x y:Fact}:y∈jV l x↔y=x∨(y∈l∧¬(y.kind=x.kind∧y.at_=x.at_)):=by
 unfold jV;simp only[cR,cS,lL];have h1:=xd x y;have h2:=pM x y;have h3:¬(y.kind=x.kind∧y.at_=x.at_)↔ct y x∨ct x y:=by unfold ct;omega
 rw[h3,←h1,←h2];constructor
 ·rintro((⟨a,b⟩|a)|⟨a,b⟩)
  ·exact .inr ⟨a,.inl b⟩
  ·exact .inl a
  ·exact .inr ⟨a,.inr b⟩
 ·rintro(a|⟨a,b|b⟩)
  ·exact .inl (.inr a)
  ·exact .inl (.inl ⟨a,b⟩)
  ·exact .inr ⟨a,b⟩
theorem UG (f:File)(x:Fact)(d:Int):(fZ (dH f x) d).facts=(jV f.facts x).filter (ku (kh d f.signs).length):=rfl
theorem rK {f:File}(x:Fact)(d k s:Int)(h:(bF (fZ f d) k s).known=true):(bF (fZ (dH f x) d) k s).known=true:=by
 obtain⟨y,hy,hb⟩:=(OH _ _ _).1 h;obtain⟨Oz,nH⟩:=cS.1 hy;refine(OH _ _ _).2 ?_;rw[UG];by_cases e:y.kind=x.kind∧y.at_=x.at_
 ·refine⟨x,cS.2 ⟨O4.2 (.inl rfl),?_⟩,?_⟩
  ·unfold ku at nH ⊢;rw[←e.2];exact nH
  ·unfold eG at hb ⊢;rw[←e.1,←e.2];exact hb
 ·exact⟨y,cS.2 ⟨O4.2 (.inr ⟨Oz,e⟩),nH⟩,hb⟩
theorem Fi {f:File}(x:Fact)(d:Int)(h:aD x.at_ (kh d f.signs).length=true):(bF (fZ (dH f x) d) x.kind x.at_).known=true:=by
 refine(OH _ _ _).2 ⟨x,?_,by simp[eG]⟩;rw[UG];exact cS.2 ⟨O4.2 (.inl rfl),h⟩
theorem agh (f:File)(x0 x1 x2 x3 x4:Fact)(d:Int)(hx:∀x,x=x0∨x=x1∨x=x2∨x=x3∨x=x4→aD x.at_ (kh d f.signs).length=true):
 ∀x,x=x0∨x=x1∨x=x2∨x=x3∨x=x4→(bF (fZ (dH (dH (dH (dH (dH f x0) x1) x2) x3) x4) d) x.kind x.at_).known=true:=by
 have k0:=Fi (f:=f) x0 d (hx x0 (by simp));have k1:=Fi (f:=dH f x0) x1 d (hx x1 (by simp));have k2:=Fi (f:=dH (dH f x0) x1) x2 d (hx x2 (by simp));have k3:=Fi (f:=dH (dH (dH f x0) x1) x2) x3 d (hx x3 (by simp));have k4:=Fi (f:=dH (dH (dH (dH f x0) x1) x2) x3) x4 d (hx x4 (by simp));rintro x (rfl|rfl|rfl|rfl|rfl)
 ·exact rK _ _ _ _ (rK _ _ _ _ (rK _ _ _ _ (rK _ _ _ _ k0)))
 ·exact rK _ _ _ _ (rK _ _ _ _ (rK _ _ _ _ k1))
 ·exact rK _ _ _ _ (rK _ _ _ _ k2)
 ·exact rK _ _ _ _ k3
 ·exact k4
theorem adk {c:Case}(hs:aD c.sign (kh c.day c.file.signs).length=true)(hh:aD (df c) (kh c.day c.file.signs).length=true)(v:Int):FactsK (gm c [0,1,2,3,4] v):=by
 have s0:eQ c 0=c.sign:=by simp[eQ]
 have s1:eQ c 1=c.sign:=by simp[eQ]
 have s2:eQ c 2=c.sign:=by simp[eQ]
 have hm:max 0 c.holder=df c:=by unfold df;split<;>omega
 have s3:eQ c 3=df c:=by simp[eQ,hm]
 have s4:eQ c 4=df c:=by simp[eQ,hm]
 have e:(gm c [0,1,2,3,4] v).file=dH (dH (dH (dH (dH c.file (fx 0 (eQ c 0) (iJ 5 v 0))) (fx 1 (eQ c 1) (iJ 5 v 1))) (fx 2 (eQ c 2) (iJ 5 v 2))) (fx 3 (eQ c 3) (iJ 5 v 3))) (fx 4 (eQ c 4) (iJ 5 v 4)):=rfl;have k5:=agh c.file (fx 0 (eQ c 0) (iJ 5 v 0)) (fx 1 (eQ c 1) (iJ 5 v 1)) (fx 2 (eQ c 2) (iJ 5 v 2)) (fx 3 (eQ c 3) (iJ 5 v 3)) (fx 4 (eQ c 4) (iJ 5 v 4)) c.day (by
  rw[s0,s1,s2,s3,s4];rintro x (rfl|rfl|rfl|rfl|rfl)
  ·exact hs
  ·exact hs
  ·exact hs
  ·exact hh
  ·exact hh)
 rw[←e] at k5;have a0:=k5 _ (.inl rfl);have a1:=k5 _ (.inr (.inl rfl));have a2:=k5 _ (.inr (.inr (.inl rfl)));have a3:=k5 _ (.inr (.inr (.inr (.inl rfl))));have a4:=k5 _ (.inr (.inr (.inr (.inr rfl))));unfold fx at a0 a1 a2 a3 a4;simp only[s0,s1,s2,s3,s4] at a0 a1 a2 a3 a4;have hC:=Ff c [0,1,2,3,4] v 5;have e1:(gm c [0,1,2,3,4] v).sign=c.sign:=hC.1;have e2:df (gm c [0,1,2,3,4] v)=df c:=by unfold df;rw[show(gm c [0,1,2,3,4] v).holder=c.holder from hC.2.1]
 have e3:(bL (gm c [0,1,2,3,4] v)).file=fZ (gm c [0,1,2,3,4] v).file c.day:=by unfold bL;rw[show(gm c [0,1,2,3,4] v).day=c.day from hC.2.2.2.2.1]
 clear hC e k5;generalize gm c [0,1,2,3,4] v=c' at*;refine⟨fun k hk=>?_,fun k hk=>?_⟩
 ·rw[e1,e3];rcases hk with rfl|rfl|rfl
  ·exact a0
  ·exact a1
  ·exact a2
 ·rw[e2,e3];rcases hk with rfl|rfl
  ·exact a3
  ·exact a4
theorem aak {r:Realm}{a q:Int}{c:Case}(he:(kV r a q c).err=0):kp (bL c)=true:=by
 unfold kV at he;split at he
 ·rename_i ho;unfold eV at he;split at he
  ·cases he
  rename_i h1;unfold eA at h1;split at h1
  ·rename_i h;exact h.1
  ·exact absurd rfl h1
 ·rename_i ho;unfold eV at ho;split at ho
  ·exact absurd rfl ho
  rename_i h1;unfold eA at h1;split at h1
  ·rename_i h;exact h.1
  ·exact absurd rfl h1
theorem am9 {r:Realm}(hr:Right r){a b q:Int}{c:Case}(h:eF r a b q c=2):(qB r a b q c).2.2=true:=by
 have hc:kp (bL c)=true:=by
  unfold eF ua at h;split at h
  ·rename_i ho;rcases ho with ho|ho
   ·exact aak ho.1
   ·exact aak ho.1
  ·split at h<;>cases h
 have M9:=hc;unfold kp at M9;simp only[aj,decide_eq_true_eq] at M9;obtain⟨⟨⟨h1,h2⟩,h3⟩,_⟩:=M9;have h1:aD c.sign (kh c.day c.file.signs).length=true:=h1;have h2:-1≤c.holder:=h2;have h3:df c<(kh c.day c.file.signs).length:=h3;have hl:(kh c.day c.file.signs).length≤c.file.signs.length:=Tl _ _;have hh0:0≤df c:=by unfold df;split<;>omega
 have hh:aD (df c) (kh c.day c.file.signs).length=true:=by simp[aD];omega
 have hT:sv c=true:=by
  simp[aD] at h1;unfold df at h3;have:c.holder<c.file.signs.length:=by split at h3<;>omega
  simp[sv];omega
 have hK:=adk h1 hh 0;have aiS:gK r a b q c ([0,1,2,3,4],0)=true:=by
  have hd:eF r a b q (gm c [0,1,2,3,4] 0)≠2:=by
   unfold eF ua;rw[if_neg]
   ·split<;>decide
   ·rintro(ho|ho)
    ·rw[UC hr a q hK ho.1] at ho;cases ho.2
    ·rw[UC hr b q hK ho.1] at ho;cases ho.2
  unfold gK;rw[h,aj,decide_eq_true_eq];exact⟨hd,hd⟩
 have cA:(([0,1,2,3,4],0):List Int×Int)∈ng:=of_decide_eq_true (by kernel_rfl);unfold qB;rw[if_pos hT];cases hf:ng.find? (gK r a b q c) with
 |some x=>rfl
 |none=>exact absurd aiS (by simpa using nZ.1 hf _ cA)
theorem acF (r:Realm)(hr:r.OK)(a b q:Int)(c:Case)(hc:c.OK):av T 7 [bK r,.int a,.int b,.int q,cg c] (.bool true):=by
 refine .of_tree rfl (lA 97 (by kernel_rfl)) apK ?_;simp[RU];obtain⟨e,he,hF⟩:=MB r hr c hc.1;refine⟨_,Rl,_,he,?_⟩;cases e
 ·simp
 have F:=hF rfl;simp;refine⟨_,F.differ a b q,?_⟩;by_cases hd:eF r a b q c=2
 ·have ht:=F.turn a b q;have hi:=am9 F.good.right hd;generalize qB r a b q c=t at*;obtain⟨k,v,is⟩:=t;simp only at hi;subst hi;simp[hd];refine⟨_,ht,?_⟩;simp[sC]
 ·simp[hd]
end Rm
