/-
  Shared texts of this claim.
-/
import Derived.Test.YtehiffddpebpkaaGreatDoorKAO
set_option linter.unusedSimpArgs false
set_option linter.unusedVariables false
namespace Rm
open Go Go.Proofs Cx
def Wp (o:Int) (d:Int) (h:Halt):Int:=if(h.order=o∧h.fr≤d)∧d≤h.to then h.to+1 else d
def sm (r:Realm) (o d:Int) (k:Nat):Int:=(r.halts.take k).foldl (Wp o) d
theorem LY (r:Realm) (o d:Int) {k:Nat} (hk:k<r.halts.length):sm r o d (k+1)=Wp o (sm r o d k) r.halts[k]:=by
 unfold sm
 rw[List.take_succ_eq_append_getElem hk,List.foldl_append]
 rfl
def FH (r:Realm):Prop:=r.halts.length≤100000∧∀h,h∈r.halts→0≤h.fr∧h.to≤100000
theorem L4 {r:Realm} (hh:FH r) (o d:Int) (hd:d≤100001):∀k,k≤r.halts.length→d≤sm r o d k∧sm r o d k≤100001
 |0,_=>⟨by simp[sm],by simpa [sm] using hd⟩
 |k+1,hk=>by
  obtain⟨h1,h2⟩:=L4 hh o d hd k (by omega)
  rw[LY r o d (by omega)]
  have:=hh.2 _ (List.getElem_mem (show k<r.halts.length by omega))
  unfold Wp
  split<;>omega
def LU (r:Realm) (o:Int):Nat→Int→Int
 |0,d=>d
 |n+1,d=>if sm r o d r.halts.length=d then d else LU r o n (sm r o d r.halts.length)
def pP (r:Realm) (o d:Int):Int:=LU r o (100002-d).toNat d
theorem TQ {r:Realm} (hh:FH r) (o:Int):∀(n:Nat) (d:Int),d≤100001→d≤LU r o n d∧LU r o n d≤100001
 |0,d,hd=>⟨Int.le_refl _,hd⟩
 |n+1,d,hd=>by
  obtain⟨h1,h2⟩:=L4 hh o d hd r.halts.length (Nat.le_refl _)
  unfold LU
  split
  ·omega
  ·have:=TQ hh o n _ h2
   omega
theorem XJ (r:Realm) (hh:FH r) (o d:Int) (h0:0≤d) (hd:d≤100001):Runs T Eb [aw r,.int o,.int d] (.int (pP r o d)):=by
 refine .of_tree rfl Oo Ga ?_
 simp[tl]
 refine EvP.forLoop (α:=Int×Bool×Nat) (fun s vr vo=>vr=[.int s.1,.bool s.2.1]∧vo=[]∧d≤s.1∧s.1≤100001∧(s.2.1=true→(100002-s.1).toNat≤s.2.2)∧(s.2.1=true→LU r o s.2.2 s.1=pP r o d)∧(s.2.1=false→s.1=pP r o d)) (fun s=>2*(100001-s.1).toNat+(if s.2.1 then 1 else 0)) (d,true,(100002-d).toNat) ?_ ?_
 ·simp
  exact⟨by omega,rfl⟩
 ·rintro⟨e,ch,n⟩ vr vo ⟨rfl,rfl,h1,h2,h3,h4,h5⟩
  simp only at*
  cases ch
  ·simp[qC,jN]
   exact h5 rfl
  ·have h3:=h3 rfl
   have h4:=h4 rfl
   obtain⟨n,rfl⟩:∃m,n=m+1:=⟨n-1,by omega⟩
   have hin:=L4 hh o e h2
   simp[qC,jN]
   refine EvP.forRounds r.halts.length (fun k=>[.int (sm r o e k),.bool (decide (e<sm r o e k)),.int k]) (fun _=>[]) ?_ (fun k hk=>?_) ?_
   ·simp[sm]
   ·have hw:=au hk (by have:=hh.1;omega)
    have hk2:=hin k (by omega)
    have hto:=hh.2 _ (List.getElem_mem hk)
    rw[LY r o e hk]
    unfold Wp
    generalize sm r o e k=x at*
    by_cases hc:(r.halts[k].order=o∧r.halts[k].fr≤x)∧x≤r.halts[k].to
    ·have hw2:IntKind.i64.wrap (r.halts[k].to+1)=r.halts[k].to+1:=aD (by omega)
     simp[eW,dy,hk,hw,hc,hw2]
     omega
    ·simp[eW,dy,hk,hw,hc]
   ·have hE:=hin r.halts.length (Nat.le_refl _)
    unfold LU at h4
    generalize sm r o e r.halts.length=x at*
    by_cases hx:x=e
    ·rw[if_pos hx] at h4
     subst hx
     simp[eW,dy]
     exact⟨x,by omega,rfl,h1,h2,h4⟩
    ·rw[if_neg hx] at h4
     have hlt:e<x:=by omega
     simp[eW,dy,hlt]
     exact⟨x,by omega,rfl,by omega,by omega,n,by omega,h4⟩
def uU (r:Realm) (c:City) (o:Int):Nat→Int→Int×Int
 |0,d=>(d,0)
 |n+1,d=>
  if(mh c (pP r o d)).2≠0 then(0,3)
  else if(mh c (pP r o d)).1=pP r o d then(pP r o d,0)
  else uU r c o n (mh c (pP r o d)).1
theorem QB (r:Realm) (c:City) (o:Int) (n:Nat) (d:Int):uU r c o (n+1) d=
 if(mh c (pP r o d)).2≠0 then(0,3)
 else if(mh c (pP r o d)).1=pP r o d then(pP r o d,0)
 else uU r c o n (mh c (pP r o d)).1:=rfl
def Dp (r:Realm) (city d:Int):Int×Int:=uU r (r.cities.getD city.toNat default) (aT r city) (100002-d).toNat d
theorem HQ (r:Realm) (hh:FH r) (city d:Int) (hc:0≤city∧city<r.cities.length) (hs:∀c,c∈r.cities→Kz c) (h0:0≤d) (hd:d≤100001):Runs T rj [aw r,.int city,.int d] (.tup [.int (Dp r city d).1,.int (Dp r city d).2]):=by
 refine .of_tree rfl JK BQ ?_
 simp[pk]
 refine⟨_,aJ r city,?_⟩
 have hcl:city.toNat<r.cities.length:=by omega
 have hcg:r.cities.getD city.toNat default=r.cities[city.toNat]:=by simp[hcl]
 have hsc:=hs _ (List.getElem_mem hcl)
 have hF:Dp r city d=uU r r.cities[city.toNat] (aT r city) (100002-d).toNat d:=by unfold Dp;rw[hcg]
 rw[hF]
 refine EvP.forLoop (α:=Int×Nat) (fun s vr vo=>(∃a b,vr=[.int s.1,a,b])∧vo=[]∧0≤s.1∧s.1≤100001∧(100002-s.1).toNat≤s.2∧uU r r.cities[city.toNat] (aT r city) s.2 s.1=uU r r.cities[city.toNat] (aT r city) (100002-d).toNat d) (fun s=>s.2) (d,(100002-d).toNat) ?_ ?_
 ·simp
  omega
 ·rintro⟨e,n⟩ vr vo ⟨⟨a,b,rfl⟩,rfl,h1,h2,h3,h4⟩
  simp only at*
  obtain⟨n,rfl⟩:∃m,n=m+1:=⟨n-1,by omega⟩
  rw[←h4]
  have hsk:=TQ hh (aT r city) (100002-e).toNat e h2
  have hsr:=XJ r hh (aT r city) e h1 h2
  rw[QB]
  change e≤pP r (aT r city) e∧pP r (aT r city) e≤100001 at hsk
  generalize pP r (aT r city) e=x at*
  have hnx:=W0 r.cities[city.toNat] hsc x
  have hni:=Zf (c:=r.cities[city.toNat]) (d:=x)
  generalize mh r.cities[city.toNat] x=N at*
  obtain⟨y,er⟩:=N
  simp only at hnx hni
  simp[xX,kN]
  refine⟨_,hsr,?_⟩
  simp[hcl,hc]
  refine⟨_,hnx,?_⟩
  by_cases he:er=0
  ·obtain⟨g1,g2,g3⟩:=hni he
   by_cases hy:y=x
   ·simp[he,hy]
   ·simp[he,hy]
    exact⟨y,n,by omega,rfl,by omega,by omega,by omega,rfl⟩
  ·simp[he]
end Rm
set_option linter.unusedSimpArgs false
set_option linter.unusedVariables false
namespace Rm
open Go Go.Proofs Cx
structure RightD (r:Realm):Prop where
 small:Small r
 halts:FH r
theorem RightD.cities {r:Realm} (h:RightD r) (c:City) (hc:c∈r.cities):Kz c:=by
 obtain⟨h1,h2,h3,_⟩:=h.small.city c hc
 exact⟨by omega,by omega,by omega⟩
theorem KW (d:Int) (t:Tenor):∃n e:Int,Runs T AX [.int d,jt t] (.tup [.int n,.int e]):=by
 by_cases h0:t.n<0
 ·refine⟨0,3,.of_tree rfl lD fX ?_⟩
  simp[ej,h0]
 by_cases h1:20000<t.n
 ·refine⟨0,3,.of_tree rfl lD fX ?_⟩
  simp[ej,h0,h1]
 by_cases h2:t.unit=1
 ·obtain⟨n,e,h,_⟩:=Nj d t.n
  refine⟨n,e,.of_tree rfl lD fX ?_⟩
  simp[ej,h0,h1,h2]
  refine⟨_,h,?_⟩
  simp
 ·refine⟨IntKind.i64.wrap (d+t.n),0,.of_tree rfl lD fX ?_⟩
  simp[ej,h0,h1,h2]
theorem Xv (r:Realm) (hr:RightD r) (b:Bill) (seen:Int):∃n e:Int,Runs T qq [aw r,bu b,.int seen] (.tup [.int n,.int e]):=by
 have htn:D.agg [D.int b.tenor.kind,D.int b.tenor.n,D.int b.tenor.unit]=jt b.tenor:=rfl
 by_cases h0:b.tenor.kind=0
 ·refine⟨seen,0,.of_tree rfl fH cX ?_⟩
  simp[cS,h0]
 by_cases h1:b.tenor.kind=1
 ·obtain⟨n,e,h⟩:=KW seen b.tenor
  refine⟨n,e,.of_tree rfl fH cX ?_⟩
  have h1':(b.tenor.kind=1)=True:=eq_true h1
  simp[cS,h0,h1']
  refine⟨_,h,?_⟩
  simp
 by_cases h2:b.tenor.kind=2
 ·obtain⟨n,e,h⟩:=KW b.day b.tenor
  refine⟨n,e,.of_tree rfl fH cX ?_⟩
  have h2':(b.tenor.kind=2)=True:=eq_true h2
  simp[cS,h0,h1,h2']
  refine⟨_,h,?_⟩
  simp
 by_cases h4:b.tenor.kind=4
 ·obtain⟨n,e,h,_⟩:=Si r b.city b.pay (by have:=hr.small.us;omega)
  refine⟨IntKind.i64.wrap (b.day+n),e,.of_tree rfl fH cX ?_⟩
  have h4':(b.tenor.kind=4)=True:=eq_true h4
  simp[cS,h0,h1,h2,h4']
  refine⟨_,h,?_⟩
  simp
 ·refine⟨b.tenor.n,0,.of_tree rfl fH cX ?_⟩
  simp[cS,h0,h1,h2,h4]
theorem Runs.ex_of_tree {tab:Nat→Option PC} {ext:Nat→Option (aK→List D→Option D)} {f:Nat} {pc:PC} {t:PT} {ds:List D} {P:D→Prop} (hx:ext f=none) (ht:tab f=some pc) (he:tree pc=t)
 (h:aF (Tab tab ext) t (Bc ds) (fun x=>∃d,x=.ret d∧P d)):∃d,Runs (Tab tab ext) f ds d∧P d:=by
 subst he
 obtain⟨x,⟨d,rfl,hd⟩,n0,hn⟩:=R0 (zB ⟨fun _ _ _ h=>(by obtain⟨_,h,_⟩:=h;cases h),fun _ _ _ _ _ _ h=>(by obtain⟨_,h,_⟩:=h;cases h),fun _ h=>h⟩ h)
 exact⟨d,.of_pc hx ht ⟨.ret d,rfl,n0,hn⟩,hd⟩
def Two (d:D):Prop:=∃n e:Int,d=.tup [.int n,.int e]
@[simp] theorem agp (n e:Int):Two (.tup [.int n,.int e])=True:=eq_true ⟨n,e,rfl⟩
theorem GJ (r:Realm) (hr:RightD r) (b:Bill) (seen grace:Int):∃d,Runs T sI [aw r,bu b,.int seen,.int grace] d∧Two d:=by
 have htn:D.agg [D.int b.tenor.kind,D.int b.tenor.n,D.int b.tenor.unit]=jt b.tenor:=rfl
 have hck:=uw r hr.small
 refine Runs.ex_of_tree rfl CU vZ ?_
 simp[ql]
 refine⟨_,hck,?_⟩
 by_cases h0:mS r=0
 case neg=>simp[h0]
 simp[h0]
 refine⟨_,xV r b.city,?_⟩
 cases h1:inB b.city r.cities.length
 ·simp[h1]
 simp[h1]
 refine⟨_,xV r b.pay,?_⟩
 cases h2:inB b.pay r.cities.length
 ·simp[h2]
 simp[h2]
 refine⟨_,q8 b.day,?_⟩
 cases h3:xd b.day
 ·simp[h3]
 simp[h3]
 intro _ _ _ _
 have hp:0≤b.pay∧b.pay<r.cities.length:=by simpa [inB] using h2
 have fin:0≤grace→grace≤20000→∃d,Runs T qq [aw r,bu b,D.int seen] d∧
  if(d.tget 1).i=0 then ∃d1,Runs T ju [d.tget 0] d1∧(d1.b=true→IntKind.i64.wrap ((d.tget 0).i+grace)≤100000→
        ∃d2,Runs T rj [aw r,D.int b.pay,D.int (IntKind.i64.wrap ((d.tget 0).i+grace))] d2∧Two (D.tup [d2.tget 0,d2.tget 1]))
  else Two (D.tup [D.int 0,d.tget 1]):=by
  intro hg0 hg1
  obtain⟨n,e,h⟩:=Xv r hr b seen
  refine⟨_,h,?_⟩
  by_cases he:e=0
  ·simp[he]
   refine⟨_,q8 n,?_⟩
   cases hd:xd n
   ·simp[hd]
   have hd':0≤n∧n≤100000:=by simpa [xd] using hd
   have hw:IntKind.i64.wrap (n+grace)=n+grace:=aD (by omega)
   simp[hd,hw]
   intro hle
   refine⟨_,HQ r hr.halts b.pay (n+grace) hp hr.cities (by omega) (by omega),?_⟩
   simp
  ·simp[he]
 by_cases hs:seen=-1
 ·simp[hs] at fin ⊢
  intro hg0 hg1
  refine⟨_,xH b.tenor,?_⟩
  simp
  intro _
  exact fin hg0 hg1
 ·simp[hs] at fin ⊢
  refine⟨_,q8 seen,?_⟩
  cases hk:xd seen
  ·simp[hk]
  simp[hk]
  intro hg0 hg1
  exact⟨⟨_,xH b.tenor⟩,fin hg0 hg1⟩
noncomputable def S7 (r:Realm) (b:Bill) (seen grace:Int):Int×Int:=
 open Classical in if h:RightD r then((GJ r h b seen grace).choose_spec.2.choose,(GJ r h b seen grace).choose_spec.2.choose_spec.choose) else(0,0)
theorem SA (r:Realm) (hr:RightD r) (b:Bill) (seen grace:Int):Runs T sI [aw r,bu b,.int seen,.int grace] (.tup [.int (S7 r b seen grace).1,.int (S7 r b seen grace).2]):=by
 have h:=(GJ r hr b seen grace).choose_spec.2.choose_spec.choose_spec
 have h1:=(GJ r hr b seen grace).choose_spec.1
 rw[h] at h1
 have e:S7 r b seen grace=((GJ r hr b seen grace).choose_spec.2.choose,(GJ r hr b seen grace).choose_spec.2.choose_spec.choose):=by unfold S7;rw[dif_pos hr]
 rw[e]
 exact h1
noncomputable def NQ (r:Realm) (forum:Int) (f:File) (day:Int):Int:=
 if(atF f day).signs=[] then-1
 else if(S7 r f.bill (wH (atF f day)) (max (ny (sK r forum 6 (atF f day) day)) 0)).2≠0 then-1
 else(S7 r f.bill (wH (atF f day)) (max (ny (sK r forum 6 (atF f day) day)) 0)).1
@[simp] theorem aau (x:File) (a0 a1 a2 a3 a4 a5 a6 a7 a8 a9 a10 a11 a12 a13 a14 a15 a16 a17 a18:D):(aX [a0,a1,a2,a3,a4,a5,a6,a7,a8,a9,a10,a11,a12,a13,a14,a15,a16,a17,a18] 0 [.int x.bill.drawer,.int x.bill.drawee,.int x.bill.payee,.int x.bill.sum,.int x.bill.currency,.int x.bill.tenor.kind,.int x.bill.tenor.n,.int x.bill.tenor.unit,.int x.bill.day,.int x.bill.city,.int x.bill.pay,.int x.bill.need,.int x.bill.rate,.int x.bill.flags,.int x.bill.parts,signs x.signs,alters x.alters,acts x.acts,facts x.facts])[15]?.getD D.none=signs x.signs:=_root_.id rfl
theorem O7 (r:Realm) (hr:Right r) (hd:RightD r) (forum:Int) (f:File) (day:Int) (hf:FewS f):Runs T yN [aw r,.int forum,aQ f,.int day] (.int (NQ r forum f day)):=by
 refine .of_tree rfl Jj Bp ?_
 simp[px]
 refine⟨_,qA f day (by have:=hf.signs;omega) (by have:=hf.acts;omega) (by have:=hf.alters;omega) (by have:=hf.facts;omega),?_⟩
 have hg:=hf.at_ day
 have hb:(atF f day).bill=f.bill:=rfl
 unfold NQ
 generalize atF f day=g at*
 simp
 by_cases h0:g.signs=[]
 ·simp[h0]
 simp[h0]
 refine⟨_,AE r hr forum 6 g day hg,_,JV _,_,GP g (by have:=hg.signs;omega) (by have:=hg.acts;omega),?_⟩
 have hm:(if(D.int (ny (sK r forum 6 g day))).i<0 then D.int 0 else D.int (ny (sK r forum 6 g day)))=D.int (max (ny (sK r forum 6 g day)) 0):=by
  simp only[abd]
  split
  ·rw[Int.max_eq_right (by omega)]
  ·rw[Int.max_eq_left (by omega)]
 rw[hm,hb]
 refine⟨_,SA r hd f.bill _ _,?_⟩
 by_cases he:(S7 r f.bill (wH g) (max (ny (sK r forum 6 g day)) 0)).2=0<;>simp[he]
end Rm
set_option linter.unusedSimpArgs false
set_option linter.unusedVariables false
namespace Rm
open Go Go.Proofs Cx
structure View where
 realm:Realm
 forum:Int
 day:Int
 file:File
 form:Int
 due:Int
 deriving Inhabited
def aO (x:View):D:=.agg [strs x.realm.currencies,vY x.realm.cities,groups x.realm.groups,firms x.realm.firms,orders x.realm.orders,usances x.realm.usances,rates x.realm.rates,halts x.realm.halts,.int x.forum,.int x.day,.int x.file.bill.drawer,.int x.file.bill.drawee,.int x.file.bill.payee,.int x.file.bill.sum,.int x.file.bill.currency,.int x.file.bill.tenor.kind,.int x.file.bill.tenor.n,.int x.file.bill.tenor.unit,.int x.file.bill.day,.int x.file.bill.city,.int x.file.bill.pay,.int x.file.bill.need,.int x.file.bill.rate,.int x.file.bill.flags,.int x.file.bill.parts,signs x.file.signs,alters x.file.alters,acts x.file.acts,facts x.file.facts,.int x.form,.int x.due]
@[simp] theorem abC (x:View):(aO x).cells=[strs x.realm.currencies,vY x.realm.cities,groups x.realm.groups,firms x.realm.firms,orders x.realm.orders,usances x.realm.usances,rates x.realm.rates,halts x.realm.halts,.int x.forum,.int x.day,.int x.file.bill.drawer,.int x.file.bill.drawee,.int x.file.bill.payee,.int x.file.bill.sum,.int x.file.bill.currency,.int x.file.bill.tenor.kind,.int x.file.bill.tenor.n,.int x.file.bill.tenor.unit,.int x.file.bill.day,.int x.file.bill.city,.int x.file.bill.pay,.int x.file.bill.need,.int x.file.bill.rate,.int x.file.bill.flags,.int x.file.bill.parts,signs x.file.signs,alters x.file.alters,acts x.file.acts,facts x.file.facts,.int x.form,.int x.due]:=_root_.id rfl
@[simp] theorem afz (x:View):D.agg [strs x.realm.currencies,vY x.realm.cities,groups x.realm.groups,firms x.realm.firms,orders x.realm.orders,usances x.realm.usances,rates x.realm.rates,halts x.realm.halts,.int x.forum,.int x.day,.int x.file.bill.drawer,.int x.file.bill.drawee,.int x.file.bill.payee,.int x.file.bill.sum,.int x.file.bill.currency,.int x.file.bill.tenor.kind,.int x.file.bill.tenor.n,.int x.file.bill.tenor.unit,.int x.file.bill.day,.int x.file.bill.city,.int x.file.bill.pay,.int x.file.bill.need,.int x.file.bill.rate,.int x.file.bill.flags,.int x.file.bill.parts,signs x.file.signs,alters x.file.alters,acts x.file.acts,facts x.file.facts,.int x.form,.int x.due]=aO x:=_root_.id rfl
@[simp] theorem ab1 (x:View):uQ 31 (aO x)=aO x:=_root_.id rfl
@[simp] theorem abW (x:View) (a0 a1 a2 a3 a4 a5 a6 a7 a8 a9 a10 a11 a12 a13 a14 a15 a16 a17 a18 a19 a20 a21 a22 a23 a24 a25 a26 a27 a28 a29 a30:D):D.agg (aX [a0,a1,a2,a3,a4,a5,a6,a7,a8,a9,a10,a11,a12,a13,a14,a15,a16,a17,a18,a19,a20,a21,a22,a23,a24,a25,a26,a27,a28,a29,a30] 0 [strs x.realm.currencies,vY x.realm.cities,groups x.realm.groups,firms x.realm.firms,orders x.realm.orders,usances x.realm.usances,rates x.realm.rates,halts x.realm.halts,.int x.forum,.int x.day,.int x.file.bill.drawer,.int x.file.bill.drawee,.int x.file.bill.payee,.int x.file.bill.sum,.int x.file.bill.currency,.int x.file.bill.tenor.kind,.int x.file.bill.tenor.n,.int x.file.bill.tenor.unit,.int x.file.bill.day,.int x.file.bill.city,.int x.file.bill.pay,.int x.file.bill.need,.int x.file.bill.rate,.int x.file.bill.flags,.int x.file.bill.parts,signs x.file.signs,alters x.file.alters,acts x.file.acts,facts x.file.facts,.int x.form,.int x.due])=aO x:=_root_.id rfl
@[simp] theorem aeR (x:View):(aO x).c 8=.int x.forum:=_root_.id rfl
@[simp] theorem aen (x:View):(aO x).c 9=.int x.day:=_root_.id rfl
@[simp] theorem adN (x:View):(aO x).c 10=.int x.file.bill.drawer:=_root_.id rfl
@[simp] theorem adn (x:View):(aO x).c 11=.int x.file.bill.drawee:=_root_.id rfl
@[simp] theorem acV (x:View):(aO x).c 12=.int x.file.bill.payee:=_root_.id rfl
@[simp] theorem acw (x:View):(aO x).c 13=.int x.file.bill.sum:=_root_.id rfl
@[simp] theorem acG (x:View):(aO x).c 14=.int x.file.bill.currency:=_root_.id rfl
@[simp] theorem acu (x:View):(aO x).c 15=.int x.file.bill.tenor.kind:=_root_.id rfl
@[simp] theorem ad8 (x:View):(aO x).c 16=.int x.file.bill.tenor.n:=_root_.id rfl
@[simp] theorem adg (x:View):(aO x).c 17=.int x.file.bill.tenor.unit:=_root_.id rfl
@[simp] theorem adq (x:View):(aO x).c 18=.int x.file.bill.day:=_root_.id rfl
@[simp] theorem ad1 (x:View):(aO x).c 19=.int x.file.bill.city:=_root_.id rfl
@[simp] theorem ac7 (x:View):(aO x).c 20=.int x.file.bill.pay:=_root_.id rfl
@[simp] theorem adw (x:View):(aO x).c 21=.int x.file.bill.need:=_root_.id rfl
@[simp] theorem adv (x:View):(aO x).c 22=.int x.file.bill.rate:=_root_.id rfl
@[simp] theorem adO (x:View):(aO x).c 23=.int x.file.bill.flags:=_root_.id rfl
@[simp] theorem ady (x:View):(aO x).c 24=.int x.file.bill.parts:=_root_.id rfl
@[simp] theorem acW (x:View):(aO x).c 25=signs x.file.signs:=_root_.id rfl
@[simp] theorem adP (x:View):(aO x).c 26=alters x.file.alters:=_root_.id rfl
@[simp] theorem ad5 (x:View):(aO x).c 27=acts x.file.acts:=_root_.id rfl
@[simp] theorem ac8 (x:View):(aO x).c 28=facts x.file.facts:=_root_.id rfl
@[simp] theorem adY (x:View):(aO x).c 29=.int x.form:=_root_.id rfl
@[simp] theorem ado (x:View):(aO x).c 30=.int x.due:=_root_.id rfl
@[simp] theorem abA (x:View):uQ 8 (aO x)=aw x.realm:=_root_.id rfl
def uq:List Int→Int→Int
 |[],o=>o
 |x::l,o=>if x=0 then 0 else uq l (if x=2 then 2 else o)
theorem Vz {l:List Int} {o:Int} (hn:∀x,x∈l→¬x=0) (h2:o=1∨o=2):uq l o=if o=2∨2∈l then 2 else 1:=by
 induction l generalizing o with
 |nil=>rcases h2 with h|h<;>simp[uq,h]
 |cons x l ih=>
  have hx:=hn x (by simp)
  unfold uq
  rw[if_neg hx]
  by_cases e:x=2
  ·rw[if_pos e,ih (fun y hy=>hn y (by simp[hy])) (.inr rfl)]
   simp[e]
  ·rw[if_neg e,ih (fun y hy=>hn y (by simp[hy])) h2]
   simp[Ne.symm e]
theorem Qc:∀{l:List Int} {o:Int} {k:Nat} (hk:k<l.length),(∀j (hj:j<k),¬l[j]'(by omega)=0)→l[k]=0→uq l o=0
 |[],o,k,hk,_,_=>by simp at hk
 |x::l,o,0,hk,hj,h=>by
  unfold uq
  rw[if_pos (by simpa using h)]
 |x::l,o,k+1,hk,hj,h=>by
  unfold uq
  rw[if_neg (by have:=hj 0 (by omega);simpa using this)]
  exact Qc (k:=k) (by simpa using hk) (fun j hjk=>by have:=hj (j+1) (by omega);simpa using this) (by simpa using h)
def Xf (l:List Int) (k:Nat):Int:=if 2∈l.take k then 2 else 1
theorem PH (l:List Int) (hl:l.length≤100000):Runs T yT [ints l] (.int (uq l 1)):=by
 refine .of_tree rfl RF I3 ?_
 simp[vM]
 refine EvP.scan l.length (fun k=>l.getD k 0≠0) (fun k=>[.int 0,.int (Xf l k),.int k]) (fun _=>[]) ?_ (fun k hk hj hok=>?_) (fun k hk hj hok=>?_) (fun hj=>?_)
 ·simp[Xf]
 ·have hw:=au hk (by omega)
  have hx:¬l[k]=0:=by simpa [hk] using hok
  have hm:Xf l (k+1)=if l[k]=2 then 2 else Xf l k:=by
   unfold Xf
   rw[List.take_succ_eq_append_getElem hk]
   simp only[List.mem_append,List.mem_singleton]
   by_cases e:l[k]=2
   ·simp[e]
   ·simp[e,Ne.symm e]
  rw[hm]
  simp[lb,gG,hk,hw,hx]
  by_cases e:l[k]=2<;>simp[e]
 ·have hx:l[k]=0:=by simpa [hk] using hok
  simp[lb,gG,hk,hx]
  rw[Qc hk (fun j hjk=>by simpa [show j<l.length by omega] using hj j hjk) hx]
 ·simp[lb,gG]
  rw[Vz (fun x hx=>by obtain⟨j,hjl,rfl⟩:=List.getElem_of_mem hx;simpa [hjl] using hj j hjl) (.inl rfl)]
  simp[Xf]
theorem NA (a b:Int):Runs T Kq [.int a,.int b] (.int (uq [a,b] 1)):=by
 refine .of_tree rfl SI Lj ?_
 simp[yY]
 exact PH [a,b] (by simp)
def ji (v:View) (q sign:Int):Int:=YX (Um v.realm v.forum q ⟨v.file,sign,sign,-1,v.due,v.day⟩)
theorem G6 (v:View) (hr:Right v.realm) (hf:FewS v.file) (q sign:Int):Runs T uv [aO v,.int q,.int sign] (.int (ji v q sign)):=by
 refine .of_tree rfl DV yk ?_
 simp[lS]
 refine⟨lC (Um v.realm v.forum q ⟨v.file,sign,sign,-1,v.due,v.day⟩),DW v.realm hr v.forum q ⟨v.file,sign,sign,-1,v.due,v.day⟩ hf,Ez _⟩
def I7 (f:File) (sign:Int) (n:Nat):Bool:=(f.alters.take n).any fun a=>decide (sign<a.at_)
def LB (f:File):Int:=(f.alters.getD (f.alters.length-1) default).sum
def AZ (v:View) (sign:Int):Int×Int:=
 if I7 v.file sign v.file.alters.length=false then(0,GD v.file sign v.file.alters.length)
 else if ji v 4 sign=1 then(1,LB v.file)
 else if ji v 4 sign=2 then(2,min (GD v.file sign v.file.alters.length) (LB v.file))
 else(ji v 4 sign,GD v.file sign v.file.alters.length)
theorem XI (v:View) (hr:Right v.realm) (hf:FewS v.file) (sign:Int):Runs T uD [aO v,.int sign] (.tup [.int (AZ v sign).1,.int (AZ v sign).2]):=by
 refine .of_tree rfl EA xm ?_
 simp[kX]
 have hal:=hf.alters
 refine⟨_,FW v.file sign (by omega),?_⟩
 refine EvP.forRounds v.file.alters.length (fun k=>[.bool (I7 v.file sign k),.int k]) (fun _=>[]) ?_ (fun k hk=>?_) ?_
 ·simp[I7]
 ·have hw:=au hk (by omega)
  have hs:I7 v.file sign (k+1)=(I7 v.file sign k||decide (sign<v.file.alters[k].at_)):=by
   unfold I7
   rw[List.take_succ_eq_append_getElem hk,List.any_append]
   simp
  rw[hs]
  cases I7 v.file sign k<;>simp[eY,cB,hk,hw]
 ·unfold AZ
  cases ha:I7 v.file sign v.file.alters.length
  ·simp[eY,cB,ha]
  simp[eY,cB,ha]
  have hpos:0<v.file.alters.length:=by
   rcases Nat.eq_zero_or_pos v.file.alters.length with e|e
   ·simp[I7,List.length_eq_zero_iff.mp e] at ha
   ·exact e
  have hw:IntKind.i64.wrap ((v.file.alters.length:Int)-1)=(v.file.alters.length:Int)-1:=aD (by omega)
  have hn:((v.file.alters.length:Int)-1).toNat=v.file.alters.length-1:=by omega
  have hlt:v.file.alters.length-1<v.file.alters.length:=by omega
  have hla:LB v.file=v.file.alters[v.file.alters.length-1].sum:=by simp[LB,hlt]
  simp[hw,hn,hlt]
  refine⟨by omega,_,G6 v hr hf 4 sign,?_⟩
  rw[hla]
  by_cases h1:ji v 4 sign=1
  ·simp[h1]
  by_cases h2:ji v 4 sign=2
  ·simp[h1,h2]
   split
   ·rw[Int.min_eq_right (by omega)]
   ·rw[Int.min_eq_left (by omega)]
  ·simp[h1,h2]
@[simp] theorem agL (a0 a1 a2 a3 a4 a5 a6 x:D):aX [a0,a1,a2,a3,a4,a5,a6] 3 [x]=[a0,a1,a2,x,a4,a5,a6]:=_root_.id rfl
@[simp] theorem agy (a0 a1 a2 a3 a4 a5 a6 x:D):aX [a0,a1,a2,a3,a4,a5,a6] 4 [x]=[a0,a1,a2,a3,x,a5,a6]:=_root_.id rfl
@[simp] theorem agz (a0 a1 a2 a3 a4 a5 a6 x:D):aX [a0,a1,a2,a3,a4,a5,a6] 5 [x]=[a0,a1,a2,a3,a4,x,a6]:=_root_.id rfl
def Om (v:View) (sign:Int):Effect:=
 let s:=v.file.signs.getD sign.toNat default
 ⟨sign,s.kind,s.who,if vu v.file sign v.day=true then 0 else uq [v.form,ji v 1 sign,ji v 2 sign] 1,(AZ v sign).1,
    if s.kind=1∨s.kind=4 then min (AZ v sign).2 s.sum else(AZ v sign).2,decide (s.kind≠1)&&decide (arI .and .i64 s.flags 1=0)⟩
theorem H5 (v:View) (hr:Right v.realm) (hf:FewS v.file) (sign:Int) (h0:0≤sign) (h1:sign<v.file.signs.length):Runs T qW [aO v,.int sign] (bE (Om v sign)):=by
 refine .of_tree rfl Ag va ?_
 obtain⟨k,rfl⟩:=Int.eq_ofNat_of_zero_le h0
 have hk:k<v.file.signs.length:=by omega
 have hst:=E4 v.file k v.day (by have:=hf.acts;omega)
 have htx:=XI v hr hf k
 have hsg:v.file.signs.getD (k:Int).toNat default=v.file.signs[k]:=by simp[hk]
 have hs1:=G6 v hr hf 1 k
 have hs2:=G6 v hr hf 2 k
 have hj:Runs T yT [.list [.int v.form,.int (ji v 1 k),.int (ji v 2 k)]] (.int (uq [v.form,ji v 1 k,ji v 2 k] 1)):=PH [v.form,ji v 1 k,ji v 2 k] (by simp)
 have hif:(if v.file.signs[k].kind=1 then D.bool false else D.bool (decide (arI BinOp.and IntKind.i64 v.file.signs[k].flags 1=0)))=D.bool (decide (v.file.signs[k].kind≠1)&&decide (arI BinOp.and IntKind.i64 v.file.signs[k].flags 1=0)):=by
  by_cases h:v.file.signs[k].kind=1<;>simp[h]
 unfold Om
 rw[hsg]
 generalize ji v 1 k=s1 at*
 generalize ji v 2 k=s2 at*
 generalize uq [v.form,s1,s2] 1=jj at*
 generalize AZ v k=tx at*
 obtain⟨t1,t2⟩:=tx
 simp only at htx
 simp[iI,hk,hif]
 refine⟨_,hst,?_⟩
 have hmin:∀a b:Int,(if b<a then D.int b else D.int a)=D.int (min a b):=by
  intro a b
  split
  ·rw[Int.min_eq_right (by omega)]
  ·rw[Int.min_eq_left (by omega)]
 cases hsk:vu v.file k v.day
 ·simp[hsk]
  refine⟨_,hs1,_,hs2,_,hj,_,htx,?_⟩
  by_cases h1:v.file.signs[k].kind=1∨v.file.signs[k].kind=4
  ·simp[h1,hmin]
   rfl
  ·simp[h1,hmin]
   rfl
 ·simp[hsk]
  refine⟨_,htx,?_⟩
  by_cases h1:v.file.signs[k].kind=1∨v.file.signs[k].kind=4
  ·simp[h1,hmin]
   rfl
  ·simp[h1,hmin]
   rfl
noncomputable def jx (r:Realm) (forum:Int) (f:File) (day:Int):View:=⟨r,forum,day,atF f day,YX (sK r forum 0 (atF f day) day),NQ r forum (atF f day) day⟩
theorem L8 (r:Realm) (hr:Right r) (hd:RightD r) (forum:Int) (f:File) (day:Int) (hf:FewS f):Runs T HS [aw r,.int forum,aQ f,.int day] (aO (jx r forum f day)):=by
 refine .of_tree rfl Rs IN ?_
 simp[vT]
 have hg:=hf.at_ day
 refine⟨_,qA f day (by have:=hf.signs;omega) (by have:=hf.acts;omega) (by have:=hf.alters;omega) (by have:=hf.facts;omega),?_⟩
 simp
 refine⟨_,AE r hr forum 0 _ day hg,_,Ez _,_,O7 r hr hd forum _ day hg,?_⟩
 simp
 rfl
@[simp] theorem aaw (x:View) (a0 a1 a2 a3 a4 a5 a6 a7 a8 a9 a10 a11 a12 a13 a14 a15 a16 a17 a18 a19 a20 a21 a22 a23 a24 a25 a26 a27 a28 a29 a30:D):(aX [a0,a1,a2,a3,a4,a5,a6,a7,a8,a9,a10,a11,a12,a13,a14,a15,a16,a17,a18,a19,a20,a21,a22,a23,a24,a25,a26,a27,a28,a29,a30] 0 [strs x.realm.currencies,vY x.realm.cities,groups x.realm.groups,firms x.realm.firms,orders x.realm.orders,usances x.realm.usances,rates x.realm.rates,halts x.realm.halts,.int x.forum,.int x.day,.int x.file.bill.drawer,.int x.file.bill.drawee,.int x.file.bill.payee,.int x.file.bill.sum,.int x.file.bill.currency,.int x.file.bill.tenor.kind,.int x.file.bill.tenor.n,.int x.file.bill.tenor.unit,.int x.file.bill.day,.int x.file.bill.city,.int x.file.bill.pay,.int x.file.bill.need,.int x.file.bill.rate,.int x.file.bill.flags,.int x.file.bill.parts,signs x.file.signs,alters x.file.alters,acts x.file.acts,facts x.file.facts,.int x.form,.int x.due])[25]?.getD D.none=signs x.file.signs:=_root_.id rfl
def noE:Effect:=⟨0,0,0,0,0,0,false⟩
noncomputable def lH (r:Realm) (forum:Int) (f:File) (sign day:Int):Effect×Bool:=
 if sign<0∨(jx r forum f day).file.signs.length≤sign then(noE,false) else(Om (jx r forum f day) sign,true)
theorem sy (r:Realm) (hr:Right r) (hd:RightD r) (forum:Int) (f:File) (sign day:Int) (hf:FewS f):Runs T A4 [aw r,.int forum,aQ f,.int sign,.int day] (.tup [bE (lH r forum f sign day).1,.bool (lH r forum f sign day).2]):=by
 refine .of_tree rfl Ns Dj ?_
 simp[rC]
 refine⟨_,L8 r hr hd forum f day hf,?_⟩
 have hg:FewS (jx r forum f day).file:=hf.at_ day
 have hr':(jx r forum f day).realm=r:=rfl
 unfold lH
 generalize jx r forum f day=v at*
 simp
 by_cases h:sign<0∨(v.file.signs.length:Int)≤sign
 ·simp[h]
  rfl
 ·simp[h]
  refine⟨_,H5 v (hr'▸hr) hg sign (by omega) (by omega),?_⟩
  simp
noncomputable def uk (r:Realm) (forum:Int) (f:File) (day:Int):List Effect:=(List.range (jx r forum f day).file.signs.length).map fun(k:Nat)=>Om (jx r forum f day) k
theorem Ec (r:Realm) (hr:Right r) (hd:RightD r) (forum:Int) (f:File) (day:Int) (hf:FewS f):Runs T xT [aw r,.int forum,aQ f,.int day] (vE (uk r forum f day)):=by
 refine .of_tree rfl Jw BN ?_
 simp[pf]
 refine⟨_,L8 r hr hd forum f day hf,?_⟩
 have hg:FewS (jx r forum f day).file:=hf.at_ day
 have hr':(jx r forum f day).realm=r:=rfl
 unfold uk
 generalize jx r forum f day=v at*
 have hl:=hg.signs
 refine EvP.forRounds v.file.signs.length (fun k=>[.none,.int k]) (fun k=>[vE ((List.range k).map fun(k:Nat)=>Om v k)]) ?_ (fun k hk=>?_) ?_
 ·simp[vE]
 ·have hw:=au hk (by omega)
  have he:=H5 v (hr'▸hr) hg k (by omega) (by omega)
  rw[List.range_succ,List.map_append]
  have hln:((List.range k).map fun(k:Nat)=>Om v k).length=k:=by simp
  generalize ((List.range k).map fun(k:Nat)=>Om v k)=A at*
  simp[nO,gg,hk,hw]
  exact⟨_,he,by omega,by simp[vE]⟩
 ·simp[nO,gg]
end Rm
set_option linter.unusedSimpArgs false
set_option linter.unusedVariables false
namespace Rm
open Go Go.Proofs Cx
def rD:PT:=
 (.call ⟨[],[(16386,pL),(12290,pL),(2,(.setc (.con (.agg [(.v (.string ⟨#[]⟩)),(.bool false),(.list []),(.list [])])) 0 (.mk [(.con (.v (.string ⟨#[103,101,110,101,118,97]⟩))),pF,pL,pL]))),(1,(.con (.agg [(.int 0),(.int 0),(.int 0),(.int 0),(.int 0),(.int 0),(.int 0),(.int 0),(.int 0),(.int 0),(.int 0),(.int 0),(.int 0),(.int 0),(.int 0),(.list []),(.list []),(.list []),(.list [])]))),(0,(.con (.agg [(.list []),(.list []),(.list []),(.list []),(.list []),(.list []),(.list []),(.list [])])))]⟩ [] 8 122 [(pi 7)]
 (.call ⟨[(9,(.mk [(pi 0),r8]))],[]⟩ [] 10 122 [(pi 16)]
 (.call ⟨[(11,(.mk [(pi 1),r10]))],[]⟩ [] 12 122 [(pi 15)]
 (.call ⟨[(13,(.mk [(pi 2),r12]))],[]⟩ [] 14 122 [(pi 14)]
 (.chk (ple (.llen (.app (.o 16386) (.lst [r9,r11,r13,(.mk [(pi 4),r14])]))) (pi 4294967296))
 (.chk (ple (.llen (.app pL (.lst [(.mk [(pi 0),(pi 0),(pi 0),(pi (-1)),(pi (-1)),(pi 0),(pi 2),(pi 0),(pi 0)])]))) (pi 4294967296))
 (.chk (ple (.llen (.app (.app pL (.lst [(.mk [(pi 0),(pi 0),(pi 0),(pi (-1)),(pi (-1)),(pi 0),(pi 2),(pi 0),(pi 0)])])) (.lst [(.mk [(pi 1),(pi 0),(pi 1),(pi (-1)),(pi (-1)),(pi 400),(pi 3),(pi 0),(pi 0)])]))) (pi 4294967296))
 (.chk (ple (.llen (.app (.app (.app pL (.lst [(.mk [(pi 0),(pi 0),(pi 0),(pi (-1)),(pi (-1)),(pi 0),(pi 2),(pi 0),(pi 0)])])) (.lst [(.mk [(pi 1),(pi 0),(pi 1),(pi (-1)),(pi (-1)),(pi 400),(pi 3),(pi 0),(pi 0)])])) (.lst [(.mk [(pi 2),(pi 0),(pi 0),(pi (-1)),(pi 1),(pi 0),(pi 4),(pi 0),(pi 0)])]))) (pi 4294967296))
 (.ret (.tup [(mkA 8 (.setc o0 0 (.mk [(pc (.setc (.con (.agg [(.list []),(.list []),(.list []),(.list []),(.list []),(.list []),(.list []),(.list [])])) 0 (.mk [(.lst [(.con (.v (.string ⟨#[102,114,97,110,99]⟩)))]),(.lst [(.mk [(.con (.v (.string ⟨#[76,121,111,110]⟩))),(pi 0),(pi 0),pL,pL,pL])]),(.lst [(.mk [(pi 0)])]),(.lst [(.mk [(.con (.v (.string ⟨#[66,111,100,109,101,114]⟩))),(pi 0),(pi 0)]),(.mk [(.con (.v (.string ⟨#[72,111,112,101]⟩))),(pi 0),(pi 0)])]),(.lst [(.mk [(pc (.setc o2 3 pN) 0),(pc (.setc o2 3 pN) 1),(.o 12290),(.app (.o 16386) (.lst [r9,r11,r13,(.mk [(pi 4),r14])]))])]),pL,pL,pL])) 0),(pc (.setc (.con (.agg [(.list []),(.list []),(.list []),(.list []),(.list []),(.list []),(.list []),(.list [])])) 0 (.mk [(.lst [(.con (.v (.string ⟨#[102,114,97,110,99]⟩)))]),(.lst [(.mk [(.con (.v (.string ⟨#[76,121,111,110]⟩))),(pi 0),(pi 0),pL,pL,pL])]),(.lst [(.mk [(pi 0)])]),(.lst [(.mk [(.con (.v (.string ⟨#[66,111,100,109,101,114]⟩))),(pi 0),(pi 0)]),(.mk [(.con (.v (.string ⟨#[72,111,112,101]⟩))),(pi 0),(pi 0)])]),(.lst [(.mk [(pc (.setc o2 3 pN) 0),(pc (.setc o2 3 pN) 1),(.o 12290),(.app (.o 16386) (.lst [r9,r11,r13,(.mk [(pi 4),r14])]))])]),pL,pL,pL])) 1),(pc (.setc (.con (.agg [(.list []),(.list []),(.list []),(.list []),(.list []),(.list []),(.list []),(.list [])])) 0 (.mk [(.lst [(.con (.v (.string ⟨#[102,114,97,110,99]⟩)))]),(.lst [(.mk [(.con (.v (.string ⟨#[76,121,111,110]⟩))),(pi 0),(pi 0),pL,pL,pL])]),(.lst [(.mk [(pi 0)])]),(.lst [(.mk [(.con (.v (.string ⟨#[66,111,100,109,101,114]⟩))),(pi 0),(pi 0)]),(.mk [(.con (.v (.string ⟨#[72,111,112,101]⟩))),(pi 0),(pi 0)])]),(.lst [(.mk [(pc (.setc o2 3 pN) 0),(pc (.setc o2 3 pN) 1),(.o 12290),(.app (.o 16386) (.lst [r9,r11,r13,(.mk [(pi 4),r14])]))])]),pL,pL,pL])) 2),(pc (.setc (.con (.agg [(.list []),(.list []),(.list []),(.list []),(.list []),(.list []),(.list []),(.list [])])) 0 (.mk [(.lst [(.con (.v (.string ⟨#[102,114,97,110,99]⟩)))]),(.lst [(.mk [(.con (.v (.string ⟨#[76,121,111,110]⟩))),(pi 0),(pi 0),pL,pL,pL])]),(.lst [(.mk [(pi 0)])]),(.lst [(.mk [(.con (.v (.string ⟨#[66,111,100,109,101,114]⟩))),(pi 0),(pi 0)]),(.mk [(.con (.v (.string ⟨#[72,111,112,101]⟩))),(pi 0),(pi 0)])]),(.lst [(.mk [(pc (.setc o2 3 pN) 0),(pc (.setc o2 3 pN) 1),(.o 12290),(.app (.o 16386) (.lst [r9,r11,r13,(.mk [(pi 4),r14])]))])]),pL,pL,pL])) 3),(pc (.setc (.con (.agg [(.list []),(.list []),(.list []),(.list []),(.list []),(.list []),(.list []),(.list [])])) 0 (.mk [(.lst [(.con (.v (.string ⟨#[102,114,97,110,99]⟩)))]),(.lst [(.mk [(.con (.v (.string ⟨#[76,121,111,110]⟩))),(pi 0),(pi 0),pL,pL,pL])]),(.lst [(.mk [(pi 0)])]),(.lst [(.mk [(.con (.v (.string ⟨#[66,111,100,109,101,114]⟩))),(pi 0),(pi 0)]),(.mk [(.con (.v (.string ⟨#[72,111,112,101]⟩))),(pi 0),(pi 0)])]),(.lst [(.mk [(pc (.setc o2 3 pN) 0),(pc (.setc o2 3 pN) 1),(.o 12290),(.app (.o 16386) (.lst [r9,r11,r13,(.mk [(pi 4),r14])]))])]),pL,pL,pL])) 4),pL,pL,pL]))),(mkA 19 (.setc o1 0 (.mk [(pc (.setc (.setc (.setc (.setc (.setc (.setc (.con (.agg [(.int 0),(.int 0),(.int 0),(.int 0),(.int 0),(.int 0),(.int 0),(.int 0),(.int 0),(.int 0),(.int 0),(.int 0),(.int 0),(.int 0),(.int 0),(.list []),(.list []),(.list []),(.list [])])) 0 (.mk [(.mk [(pi 0),(pi 1),(pi 0),(pi 500),(pi 0),(.mk [(pi 3),(pi 10),(pi 0)]),(pi 2),(pi 0),(pi 0),(pi (-1)),(pi 0),(pi 1),(pi 1)]),pL,pL,pL,pL])) 15 pN) 15 pN) 15 pN) 16 pN) 18 pN) 0),(pc (.setc (.setc (.setc (.setc (.setc (.setc (.con (.agg [(.int 0),(.int 0),(.int 0),(.int 0),(.int 0),(.int 0),(.int 0),(.int 0),(.int 0),(.int 0),(.int 0),(.int 0),(.int 0),(.int 0),(.int 0),(.list []),(.list []),(.list []),(.list [])])) 0 (.mk [(.mk [(pi 0),(pi 1),(pi 0),(pi 500),(pi 0),(.mk [(pi 3),(pi 10),(pi 0)]),(pi 2),(pi 0),(pi 0),(pi (-1)),(pi 0),(pi 1),(pi 1)]),pL,pL,pL,pL])) 15 pN) 15 pN) 15 pN) 16 pN) 18 pN) 1),(pc (.setc (.setc (.setc (.setc (.setc (.setc (.con (.agg [(.int 0),(.int 0),(.int 0),(.int 0),(.int 0),(.int 0),(.int 0),(.int 0),(.int 0),(.int 0),(.int 0),(.int 0),(.int 0),(.int 0),(.int 0),(.list []),(.list []),(.list []),(.list [])])) 0 (.mk [(.mk [(pi 0),(pi 1),(pi 0),(pi 500),(pi 0),(.mk [(pi 3),(pi 10),(pi 0)]),(pi 2),(pi 0),(pi 0),(pi (-1)),(pi 0),(pi 1),(pi 1)]),pL,pL,pL,pL])) 15 pN) 15 pN) 15 pN) 16 pN) 18 pN) 2),(pc (.setc (.setc (.setc (.setc (.setc (.setc (.con (.agg [(.int 0),(.int 0),(.int 0),(.int 0),(.int 0),(.int 0),(.int 0),(.int 0),(.int 0),(.int 0),(.int 0),(.int 0),(.int 0),(.int 0),(.int 0),(.list []),(.list []),(.list []),(.list [])])) 0 (.mk [(.mk [(pi 0),(pi 1),(pi 0),(pi 500),(pi 0),(.mk [(pi 3),(pi 10),(pi 0)]),(pi 2),(pi 0),(pi 0),(pi (-1)),(pi 0),(pi 1),(pi 1)]),pL,pL,pL,pL])) 15 pN) 15 pN) 15 pN) 16 pN) 18 pN) 3),(pc (.setc (.setc (.setc (.setc (.setc (.setc (.con (.agg [(.int 0),(.int 0),(.int 0),(.int 0),(.int 0),(.int 0),(.int 0),(.int 0),(.int 0),(.int 0),(.int 0),(.int 0),(.int 0),(.int 0),(.int 0),(.list []),(.list []),(.list []),(.list [])])) 0 (.mk [(.mk [(pi 0),(pi 1),(pi 0),(pi 500),(pi 0),(.mk [(pi 3),(pi 10),(pi 0)]),(pi 2),(pi 0),(pi 0),(pi (-1)),(pi 0),(pi 1),(pi 1)]),pL,pL,pL,pL])) 15 pN) 15 pN) 15 pN) 16 pN) 18 pN) 4),(pc (.setc (.setc (.setc (.setc (.setc (.setc (.con (.agg [(.int 0),(.int 0),(.int 0),(.int 0),(.int 0),(.int 0),(.int 0),(.int 0),(.int 0),(.int 0),(.int 0),(.int 0),(.int 0),(.int 0),(.int 0),(.list []),(.list []),(.list []),(.list [])])) 0 (.mk [(.mk [(pi 0),(pi 1),(pi 0),(pi 500),(pi 0),(.mk [(pi 3),(pi 10),(pi 0)]),(pi 2),(pi 0),(pi 0),(pi (-1)),(pi 0),(pi 1),(pi 1)]),pL,pL,pL,pL])) 15 pN) 15 pN) 15 pN) 16 pN) 18 pN) 5),(pc (.setc (.setc (.setc (.setc (.setc (.setc (.con (.agg [(.int 0),(.int 0),(.int 0),(.int 0),(.int 0),(.int 0),(.int 0),(.int 0),(.int 0),(.int 0),(.int 0),(.int 0),(.int 0),(.int 0),(.int 0),(.list []),(.list []),(.list []),(.list [])])) 0 (.mk [(.mk [(pi 0),(pi 1),(pi 0),(pi 500),(pi 0),(.mk [(pi 3),(pi 10),(pi 0)]),(pi 2),(pi 0),(pi 0),(pi (-1)),(pi 0),(pi 1),(pi 1)]),pL,pL,pL,pL])) 15 pN) 15 pN) 15 pN) 16 pN) 18 pN) 6),(pc (.setc (.setc (.setc (.setc (.setc (.setc (.con (.agg [(.int 0),(.int 0),(.int 0),(.int 0),(.int 0),(.int 0),(.int 0),(.int 0),(.int 0),(.int 0),(.int 0),(.int 0),(.int 0),(.int 0),(.int 0),(.list []),(.list []),(.list []),(.list [])])) 0 (.mk [(.mk [(pi 0),(pi 1),(pi 0),(pi 500),(pi 0),(.mk [(pi 3),(pi 10),(pi 0)]),(pi 2),(pi 0),(pi 0),(pi (-1)),(pi 0),(pi 1),(pi 1)]),pL,pL,pL,pL])) 15 pN) 15 pN) 15 pN) 16 pN) 18 pN) 7),(pc (.setc (.setc (.setc (.setc (.setc (.setc (.con (.agg [(.int 0),(.int 0),(.int 0),(.int 0),(.int 0),(.int 0),(.int 0),(.int 0),(.int 0),(.int 0),(.int 0),(.int 0),(.int 0),(.int 0),(.int 0),(.list []),(.list []),(.list []),(.list [])])) 0 (.mk [(.mk [(pi 0),(pi 1),(pi 0),(pi 500),(pi 0),(.mk [(pi 3),(pi 10),(pi 0)]),(pi 2),(pi 0),(pi 0),(pi (-1)),(pi 0),(pi 1),(pi 1)]),pL,pL,pL,pL])) 15 pN) 15 pN) 15 pN) 16 pN) 18 pN) 8),(pc (.setc (.setc (.setc (.setc (.setc (.setc (.con (.agg [(.int 0),(.int 0),(.int 0),(.int 0),(.int 0),(.int 0),(.int 0),(.int 0),(.int 0),(.int 0),(.int 0),(.int 0),(.int 0),(.int 0),(.int 0),(.list []),(.list []),(.list []),(.list [])])) 0 (.mk [(.mk [(pi 0),(pi 1),(pi 0),(pi 500),(pi 0),(.mk [(pi 3),(pi 10),(pi 0)]),(pi 2),(pi 0),(pi 0),(pi (-1)),(pi 0),(pi 1),(pi 1)]),pL,pL,pL,pL])) 15 pN) 15 pN) 15 pN) 16 pN) 18 pN) 9),(pc (.setc (.setc (.setc (.setc (.setc (.setc (.con (.agg [(.int 0),(.int 0),(.int 0),(.int 0),(.int 0),(.int 0),(.int 0),(.int 0),(.int 0),(.int 0),(.int 0),(.int 0),(.int 0),(.int 0),(.int 0),(.list []),(.list []),(.list []),(.list [])])) 0 (.mk [(.mk [(pi 0),(pi 1),(pi 0),(pi 500),(pi 0),(.mk [(pi 3),(pi 10),(pi 0)]),(pi 2),(pi 0),(pi 0),(pi (-1)),(pi 0),(pi 1),(pi 1)]),pL,pL,pL,pL])) 15 pN) 15 pN) 15 pN) 16 pN) 18 pN) 10),(pc (.setc (.setc (.setc (.setc (.setc (.setc (.con (.agg [(.int 0),(.int 0),(.int 0),(.int 0),(.int 0),(.int 0),(.int 0),(.int 0),(.int 0),(.int 0),(.int 0),(.int 0),(.int 0),(.int 0),(.int 0),(.list []),(.list []),(.list []),(.list [])])) 0 (.mk [(.mk [(pi 0),(pi 1),(pi 0),(pi 500),(pi 0),(.mk [(pi 3),(pi 10),(pi 0)]),(pi 2),(pi 0),(pi 0),(pi (-1)),(pi 0),(pi 1),(pi 1)]),pL,pL,pL,pL])) 15 pN) 15 pN) 15 pN) 16 pN) 18 pN) 11),(pc (.setc (.setc (.setc (.setc (.setc (.setc (.con (.agg [(.int 0),(.int 0),(.int 0),(.int 0),(.int 0),(.int 0),(.int 0),(.int 0),(.int 0),(.int 0),(.int 0),(.int 0),(.int 0),(.int 0),(.int 0),(.list []),(.list []),(.list []),(.list [])])) 0 (.mk [(.mk [(pi 0),(pi 1),(pi 0),(pi 500),(pi 0),(.mk [(pi 3),(pi 10),(pi 0)]),(pi 2),(pi 0),(pi 0),(pi (-1)),(pi 0),(pi 1),(pi 1)]),pL,pL,pL,pL])) 15 pN) 15 pN) 15 pN) 16 pN) 18 pN) 12),(pc (.setc (.setc (.setc (.setc (.setc (.setc (.con (.agg [(.int 0),(.int 0),(.int 0),(.int 0),(.int 0),(.int 0),(.int 0),(.int 0),(.int 0),(.int 0),(.int 0),(.int 0),(.int 0),(.int 0),(.int 0),(.list []),(.list []),(.list []),(.list [])])) 0 (.mk [(.mk [(pi 0),(pi 1),(pi 0),(pi 500),(pi 0),(.mk [(pi 3),(pi 10),(pi 0)]),(pi 2),(pi 0),(pi 0),(pi (-1)),(pi 0),(pi 1),(pi 1)]),pL,pL,pL,pL])) 15 pN) 15 pN) 15 pN) 16 pN) 18 pN) 13),(pc (.setc (.setc (.setc (.setc (.setc (.setc (.con (.agg [(.int 0),(.int 0),(.int 0),(.int 0),(.int 0),(.int 0),(.int 0),(.int 0),(.int 0),(.int 0),(.int 0),(.int 0),(.int 0),(.int 0),(.int 0),(.list []),(.list []),(.list []),(.list [])])) 0 (.mk [(.mk [(pi 0),(pi 1),(pi 0),(pi 500),(pi 0),(.mk [(pi 3),(pi 10),(pi 0)]),(pi 2),(pi 0),(pi 0),(pi (-1)),(pi 0),(pi 1),(pi 1)]),pL,pL,pL,pL])) 15 pN) 15 pN) 15 pN) 16 pN) 18 pN) 14),(.app (.app (.app pL (.lst [(.mk [(pi 0),(pi 0),(pi 0),(pi (-1)),(pi (-1)),(pi 0),(pi 2),(pi 0),(pi 0)])])) (.lst [(.mk [(pi 1),(pi 0),(pi 1),(pi (-1)),(pi (-1)),(pi 400),(pi 3),(pi 0),(pi 0)])])) (.lst [(.mk [(pi 2),(pi 0),(pi 0),(pi (-1)),(pi 1),(pi 0),(pi 4),(pi 0),(pi 0)])])),(.lst [(.mk [(pi 2),(pi 900)])]),pL,(.lst [(.mk [(pi 0),(pi 0),(pi 1)]),(.mk [(pi 1),(pi 0),(pi 1)]),(.mk [(pi 0),(pi 1),(pi 1)]),(.mk [(pi 1),(pi 2),(pi 1)])])])))]))))))))))
def L9 (b:Nat→PC):PT×List (Shp×PT):=(rD,[])
theorem LH:cf_l23_example.map told=some (L9 (aA cf_l23_example)):=by kernel_rfl
theorem Dr:tree lL=rD:=ah LH
theorem ns (v:Int):Runs T yR [.int v] (iM ⟨2,v,[]⟩):=by
 refine .of_tree rfl JU A7 ?_
 simp[ox]
 rfl
def exT (v:Int):Tm:=⟨2,v,[]⟩
def exO:Order:=⟨⟨#[103,101,110,101,118,97]⟩,false,[],[⟨0,exT 7⟩,⟨1,exT 16⟩,⟨2,exT 15⟩,⟨4,exT 14⟩]⟩
def exR:Realm:=⟨[⟨#[102,114,97,110,99]⟩],[⟨⟨#[76,121,111,110]⟩,0,0,[],[],[]⟩],[⟨0⟩],[⟨⟨#[66,111,100,109,101,114]⟩,0,0⟩,⟨⟨#[72,111,112,101]⟩,0,0⟩],[exO],[],[],[]⟩
def exB:Bill:=⟨0,1,0,500,0,⟨3,10,0⟩,2,0,0,-1,0,1,1⟩
def exF:File:=⟨exB,[⟨0,0,0,-1,-1,0,2,0,0⟩,⟨1,0,1,-1,-1,400,3,0,0⟩,⟨2,0,0,-1,1,0,4,0,0⟩],[⟨2,900⟩],[],[⟨0,0,1⟩,⟨1,0,1⟩,⟨0,1,1⟩,⟨1,2,1⟩]⟩
theorem RB:Runs T AJ [] (.tup [aw exR,aQ exF]):=by
 refine .of_tree rfl KR Dr ?_
 simp[rD]
 refine⟨_,ns 7,_,ns 16,_,ns 15,_,ns 14,?_⟩
 simp
 exact⟨by kernel_rfl,by kernel_rfl⟩
theorem SO:Small exR:=by
 refine⟨by decide,by decide,by decide,by decide,by decide,by decide,by decide,by decide,?_,?_,?_⟩
 ·intro c hc
  obtain rfl:c=⟨⟨#[76,121,111,110]⟩,0,0,[],[],[]⟩:=by simpa [exR] using hc
  simp
 ·intro o ho
  obtain rfl:o=exO:=by simpa [exR] using ho
  simp[exO]
 ·intro x hx
  simp[exR] at hx
theorem ex_rightD:RightD exR:=⟨SO,by decide,fun h hh=>by simp[exR] at hh⟩
theorem Zh:S7 exR exB (-1) 0=(10,0):=by
 have hck:=uw exR SO
 have h0:mS exR=0:=by kernel_rfl
 rw[h0] at hck
 have hset:=HQ exR ex_rightD.halts 0 10 (by decide) ex_rightD.cities (by decide) (by decide)
 have hsv:Dp exR 0 10=(10,0):=by kernel_rfl
 rw[hsv] at hset
 have h:Runs T sI [aw exR,bu exB,.int (-1),.int 0] (.tup [.int 10,.int 0]):=by
  have hb:Runs T qq [aw exR,bu exB,.int (-1)] (.tup [.int 10,.int 0]):=by
   refine .of_tree rfl fH cX ?_
   simp[cS,exB]
  have hi1:Runs T q9 [aw exR,.int 0] (.bool true):=xV exR 0
  have hi2:Runs T ju [.int 2] (.bool true):=q8 2
  have hi3:Runs T ju [.int 10] (.bool true):=q8 10
  have hi4:Runs T rp [jt exB.tenor] (.bool false):=xH exB.tenor
  refine .of_tree rfl CU vZ ?_
  simp[ql]
  refine⟨_,hck,?_⟩
  simp
  refine⟨_,hi1,?_⟩
  simp
  refine⟨_,hi1,?_⟩
  simp
  refine⟨_,hi2,?_⟩
  simp
  refine⟨by simp[exB],_,hi4,?_⟩
  simp
  refine⟨_,hb,?_⟩
  simp
  refine⟨_,hi3,?_⟩
  have hw10:IntKind.i64.wrap 10=10:=aD (by omega)
  simp[hw10]
  refine⟨_,hset,?_⟩
  simp
 have h2:=h.det (SA exR ex_rightD exB (-1) 0)
 simp at h2
 exact Prod.ext h2.1.symm h2.2.symm
theorem Wk:NQ exR 0 (atF exF 5) 5=10:=by
 have h1:(atF (atF exF 5) 5).signs≠[]:=by decide
 have h2:wH (atF (atF exF 5) 5)=-1:=by kernel_rfl
 have h3:max (ny (sK exR 0 6 (atF (atF exF 5) 5) 5)) 0=0:=by kernel_rfl
 unfold NQ
 rw[if_neg h1,h2,h3,show(atF exF 5).bill=exB from rfl,Zh]
 simp
theorem We:NQ exR 0 (atF exF 2) 2=10:=by
 have h1:(atF (atF exF 2) 2).signs≠[]:=by decide
 have h2:wH (atF (atF exF 2) 2)=-1:=by kernel_rfl
 have h3:max (ny (sK exR 0 6 (atF (atF exF 2) 2) 2)) 0=0:=by kernel_rfl
 unfold NQ
 rw[if_neg h1,h2,h3,show(atF exF 2).bill=exB from rfl,Zh]
 simp
def exW:List Effect:=[⟨0,0,0,1,0,500,true⟩,⟨1,1,1,2,0,400,false⟩,⟨2,2,0,2,0,900,true⟩]
theorem Sp:uk exR 0 exF 5=exW:=by
 unfold uk jx
 rw[Wk]
 kernel_rfl
theorem To:uk exR 0 exF 2=exW.take 1:=by
 unfold uk jx
 rw[We]
 kernel_rfl
theorem UX:lH exR 0 exF 2 5=(⟨2,2,0,2,0,900,true⟩,true):=by
 unfold lH jx
 rw[Wk]
 kernel_rfl
theorem Uy:lH exR 0 exF 1 2=(noE,false):=by
 unfold lH jx
 rw[We]
 kernel_rfl
def HG (a b:List Effect):Bool:=decide (a.length=b.length)&&lQ a.length (fun k=>decide (a.getD k default=b.getD k default))
theorem Ux (a:List Effect):HG a a=true:=by
 unfold HG
 rw[zn fun k _=>by simp]
 simp
theorem XA (a b:Effect):a=b↔a.sign=b.sign∧a.kind=b.kind∧a.firm=b.firm∧a.binds=b.binds∧a.text=b.text∧a.sum=b.sum∧a.recourse=b.recourse:=by cases a;cases b;simp
theorem A0 (a b:List Effect) (ha:a.length≤100000):Runs T LZ [vE a,vE b] (.bool (HG a b)):=by
 refine .of_tree rfl Ta Ls ?_
 simp[xh]
 by_cases hl:a.length=b.length
 case neg=>
  have:¬(a.length:Int)=b.length:=by omega
  simp[this,HG,hl]
 have hl':(a.length:Int)=b.length:=by omega
 simp[hl']
 refine EvP.scan a.length (fun k=>a.getD k default=b.getD k default) (fun k=>[.bool false,.int k]) (fun _=>[]) ?_ (fun k hk hj hok=>?_) (fun k hk hj hok=>?_) (fun hj=>?_)
 ·simp
 ·have hw:=au hk (by omega)
  have hkb:k<b.length:=by omega
  have hx:a[k]=b[k]:=by simpa [hk,hkb] using hok
  simp[mm,jn,hk,hkb,hw,hx]
 ·have hkb:k<b.length:=by omega
  have hx:¬a[k]=b[k]:=by simpa [hk,hkb] using hok
  have hs:HG a b=false:=by
   unfold HG
   rw[Ms hk (by simpa [hk,hkb] using hx)]
   simp
  rw[hs]
  rw[XA] at hx
  simp[mm,jn,hk,hkb]
  simp only[←Classical.not_and_iff_not_or_not]
  exact hx
 ·have hs:HG a b=true:=by
   unfold HG
   rw[zn fun k hk=>by simpa using hj k hk]
   simp[hl]
  rw[hs]
  simp[mm,jn]
theorem abu {v:Int} (h:I64 v):(exT v).OK:=.mk 2 v [] (by unfold I64;omega) h (by decide) (fun _ h=>by cases h)
theorem Ep:Right exR:=by
 refine⟨?_,by decide,?_⟩
 ·intro o ho
  obtain rfl:o=exO:=by simpa [exR] using ho
  exact⟨by decide,fun ch h=>by simp[exO] at h⟩
 ·intro o ho
  obtain rfl:o=exO:=by simpa [exR] using ho
  refine⟨⟨⟨by decide,fun ch h=>by simp[exO] at h⟩,by decide,?_⟩,by decide⟩
  intro x hx
  simp[exO] at hx
  rcases hx with rfl|rfl|rfl|rfl
  all_goals exact⟨by unfold I64;decide,abu (by unfold I64;omega)⟩
theorem Uz:Runs T HV [] (.bool true):=by
 have hf:FewS exF:=⟨by decide,by decide,by decide,by decide⟩
 have e1:=sy exR Ep ex_rightD 0 exF 2 5 hf
 have e2:=sy exR Ep ex_rightD 0 exF 1 2 hf
 have e3:=Ec exR Ep ex_rightD 0 exF 5 hf
 have e4:=Ec exR Ep ex_rightD 0 exF 2 hf
 rw[UX] at e1
 rw[Uy] at e2
 rw[Sp] at e3
 rw[To] at e4
 have s1:=A0 exW exW (by decide)
 have s2:=A0 (exW.take 1) (exW.take 1) (by decide)
 rw[Ux] at s1 s2
 have a1:=NA 1 2
 have a2:=NA 2 0
 have a3:=NA 1 1
 refine .of_tree rfl QC Jb ?_
 simp[vg]
 refine⟨_,RB,?_⟩
 simp
 refine⟨_,e1,_,e2,_,e3,_,s1,?_⟩
 simp
 refine⟨_,e4,_,s2,?_⟩
 simp[uq] at a1 a2 a3
 have hall:uQ 7 (D.agg [D.int 2,D.int 2,D.int 0,D.int 2,D.int 0,D.int 900,D.bool true])=bE ⟨2,2,0,2,0,900,true⟩:=rfl
 simp[hall]
 refine⟨_,a1,?_⟩
 simp
 refine⟨_,a2,?_⟩
 simp
 refine⟨_,a3,?_⟩
 simp
end Rm
set_option linter.unusedSimpArgs false
set_option linter.unusedVariables false
namespace Rm
open Go Go.Proofs Cx
theorem UE {n:Nat} {f:Nat→Int} (h:ki n f=0) (k:Nat) (hk:k<n):f k=0:=firstE_iff.1 h k hk
theorem Sk {r:Realm} (h:mS r=0) (k:Nat) (hk:k<r.orders.length):qK r.orders[k]=true:=by
 unfold mS at h
 rw[Gj] at h
 have h1:=h (eF (bH r) 20 (mA r)) (by simp)
 unfold eF at h1
 split at h1
 ·cases h1
 have h2:=UE h1 k (by simpa [bH] using hk)
 have h3:=(Ea h2).2
 unfold mA at h3
 simpa [hk] using h3
theorem WU {r:Realm} (hs:Small r) (h:mS r=0):X0 r:=by
 intro o ho
 obtain⟨k,hk,rfl⟩:=List.getElem_of_mem ho
 have h1:=Sk h k hk
 obtain⟨hc,_⟩:=hs.order _ ho
 refine⟨by omega,fun ch hch=>?_⟩
 unfold qK at h1
 simp only[Bool.and_eq_true] at h1
 obtain⟨j,hj,rfl⟩:=List.getElem_of_mem hch
 have h2:=allB_iff.1 h1.1 j hj
 simpa [inB,hj] using h2
theorem UJ {r:Realm} (hs:Small r) (h:mS r=0):FH r:=by
 refine⟨by have:=hs.halts;omega,fun x hx=>?_⟩
 obtain⟨k,hk,rfl⟩:=List.getElem_of_mem hx
 unfold mS at h
 rw[Gj] at h
 have h1:=h (oz r) (by simp)
 unfold oz at h1
 split at h1
 ·cases h1
 split at h1
 ·cases h1
 split at h1
 ·cases h1
 split at h1
 ·rename_i hall
  have h2:=allB_iff.1 hall k hk
  simp[Hr,wi,inB,hk] at h2
  omega
 ·cases h1
structure Good (r:Realm) (f:File):Prop where
 right:Right r
 rightD:RightD r
 few:FewS f
theorem ZI {r:Realm} {f:File} (hr:r.OK) (h:MH r f=true):Good r f:=by
 unfold MH AR at h
 simp only[Bool.and_eq_true,decide_eq_true_eq] at h
 obtain⟨⟨⟨h1,h2⟩,h3⟩,h4⟩:=h
 have hs:=GB hr h1
 refine⟨⟨WU hs h4,by have:=hs.orders;omega,fun o ho=>?_⟩,⟨hs,UJ hs h4⟩,?_⟩
 ·have:=hs.order o ho
  refine⟨?_,by omega⟩
  exact hr.2.2.2.2.1.2 o ho
 ·simp[WK] at h2
  exact⟨by omega,by omega,by omega,by omega⟩
end Rm
set_option linter.unusedSimpArgs false
set_option linter.unusedVariables false
namespace Rm
open Go Go.Proofs Cx
structure SameF (f g:File):Prop where
 bill:g.bill=f.bill
 signs:g.signs=f.signs
 alters:g.alters=f.alters
 acts:g.acts=f.acts
theorem SameF.at_ {f g:File} (h:SameF f g) (day:Int):SameF (atF f day) (atF g day):=by
 obtain⟨h1,h2,h3,h4⟩:=h
 constructor<;>simp[atF,h1,h2,h3,h4]
def uG (c:Case) (g:File):Case:={c with file:=g}
theorem Xt {c:Case} {g:File} (h:SameF c.file g) (r:Realm) (s:Sign) (i:Nat):aR (sS r (uG c g) s) i=
 if i=15 then br g 0 c.sign else if i=16 then br g 1 c.sign else if i=17 then br g 2 c.sign else if i=18 then br g 3 (jk c) else if i=19 then br g 4 (jk c) else aR (sS r c s) i:=by
 obtain⟨h1,h2,h3,h4⟩:=h
 have e:(sS r (uG c g) s)=(wK c s).map (fun p=>⟨true,p.2⟩)++(wj r c s).map (fun p=>qL p.2)++
  [br g 0 c.sign,br g 1 c.sign,br g 2 c.sign,br g 3 (jk c),br g 4 (jk c)]:=by
  simp[sS,uG,wK,wj,jk,QR,h1,h3,Ma]
  exact⟨rfl,rfl,rfl,rfl⟩
 rw[e]
 unfold sS wK wj
 rcases i with _|_|_|_|_|_|_|_|_|_|_|_|_|_|_|_|_|_|_|_|i<;>simp[aR]
theorem Sj {c:Case} {g:File} (h:SameF c.file g) (r:Realm) (forum:Int):cr r forum (uG c g)=cr r forum c:=by
 obtain⟨h1,h2,h3,h4⟩:=h
 simp[cr,Lr,CF,uG,tJ,h1,h2]
theorem SP (c:Case) (g:File):ofF (uG c g)=uG (ofF c) (atF g c.day):=rfl
end Rm
set_option linter.unusedSimpArgs false
set_option linter.unusedVariables false
namespace Rm
open Go Go.Proofs Cx
def FSame (f g:File) (s:Int):Prop:=∀k,br g k s=br f k s
theorem Wc (f:File) (day k s:Int):br (atF f day) k s=if inB s (upS day f.signs).length=true then br f k s else noC:=by
 unfold br
 have h:(atF f day).facts.find? (nF k s)=if inB s (upS day f.signs).length=true then f.facts.find? (nF k s) else none:=by
  show(f.facts.filter (Ck (upS day f.signs).length)).find? (nF k s)=_
  generalize (upS day f.signs).length=n
  induction f.facts with
  |nil=>simp
  |cons x l ih=>
   by_cases hx:nF k s x=true
   ·have hs:x.at_=s:=by simp[nF] at hx;exact hx.2
    by_cases hn:inB s n=true
    ·have:Ck n x=true:=by unfold Ck;rw[hs];exact hn
     simp[List.filter_cons,this,hx,hn]
    ·have:¬Ck n x=true:=by unfold Ck;rw[hs];exact hn
     simp only[List.filter_cons,if_neg this,ih,if_neg hn]
   ·by_cases hn:Ck n x=true
    ·simp[List.filter_cons,hn,hx,ih]
    ·simp[List.filter_cons,hn,hx,ih]
 rw[h]
 by_cases hn:inB s (upS day f.signs).length=true
 ·rw[if_pos hn,if_pos hn]
 ·rw[if_neg hn,if_neg hn]
theorem FSame.at_ {f g:File} {s:Int} (h:FSame f g s) (hs:g.signs=f.signs) (day:Int):FSame (atF f day) (atF g day) s:=by
 intro k
 rw[Wc,Wc,hs,h k]
theorem Yv {l l':List Cell} (h:l.length=l'.length) (hc:∀i,aR l i=aR l' i):l=l':=by
 refine List.ext_getElem h fun i h1 h2=>?_
 have:=hc i
 simpa [aR,h1,h2] using this
theorem Zm (r:Realm) (forum q:Int) {c:Case} {g:File} (h:SameF c.file g) (hf:FSame (atF c.file c.day) (atF g c.day) c.sign) (hh:c.holder=c.sign):
 Um r forum q (uG c g)=Um r forum q c:=by
 have hs:=h.at_ c.day
 have hv:kG r (ofF (uG c g))=kG r (ofF c):=by
  rw[SP]
  have e1:uc (uG (ofF c) (atF g c.day))=uc (ofF c):=by simp[uc,uG,ofF,hs.signs,jk];rfl
  unfold kG
  rw[e1]
  simp only[show(uG (ofF c) (atF g c.day)).file.signs=(ofF c).file.signs from hs.signs,show(uG (ofF c) (atF g c.day)).sign=(ofF c).sign from rfl]
  by_cases hc:uc (ofF c)=true∧inB ((ofF c).file.signs.getD (ofF c).sign.toNat default).day 100001=true
  ·rw[if_pos hc,if_pos hc]
   have h0:0≤c.sign:=by
        have h1:=hc.1
        unfold uc inB at h1
        simp only[Bool.and_eq_true,decide_eq_true_eq] at h1
        exact h1.1.1.1.1
   have hold:jk (ofF c)=c.sign:=by unfold jk;rw[if_neg (by show ¬c.holder<0;omega)];exact hh
   generalize (ofF c).file.signs.getD (ofF c).sign.toNat default=s
   refine Yv (by simp[sS,wK,wj]) fun i=>?_
   have e:=Xt (c:=ofF c) hs r s i
   rw[e,hold]
   have q:aR (sS r (ofF c) s) 15=br (atF c.file c.day) 0 c.sign∧aR (sS r (ofF c) s) 16=br (atF c.file c.day) 1 c.sign∧aR (sS r (ofF c) s) 17=br (atF c.file c.day) 2 c.sign∧aR (sS r (ofF c) s) 18=br (atF c.file c.day) 3 c.sign∧aR (sS r (ofF c) s) 19=br (atF c.file c.day) 4 c.sign:=by
        refine⟨rfl,rfl,rfl,?_,?_⟩
        ·show br _ 3 (jk (ofF c))=_;rw[hold];rfl
        ·show br _ 4 (jk (ofF c))=_;rw[hold];rfl
   obtain⟨q0,q1,q2,q3,q4⟩:=q
   show(if i=15 then br _ 0 c.sign else if i=16 then br _ 1 c.sign else if i=17 then br _ 2 c.sign else _)=_
   rw[hf 0,hf 1,hf 2,hf 3,hf 4]
   split
   ·rename_i h;rw[h,q0]
   split
   ·rename_i h;rw[h,q1]
   split
   ·rename_i h;rw[h,q2]
   split
   ·rename_i h;rw[h,q3]
   split
   ·rename_i h;rw[h,q4]
   rfl
  ·rw[if_neg hc,if_neg hc]
 have hp:=Sj (c:=ofF c) hs r forum
 unfold Um dj
 rw[hv]
 rw[SP,hp]
theorem PJ (r:Realm) (forum q:Int) {f g:File} (h:SameF f g) (day:Int):sK r forum q g day=sK r forum q f day:=by
 obtain⟨h1,h2,h3,h4⟩:=h
 unfold sK
 rw[show({g with facts:=[]}:File)={f with facts:=[]} by rw[h1,h2,h3,h4]]
theorem XE {f g:File} (h:SameF f g):wH g=wH f:=by
 obtain⟨h1,h2,h3,h4⟩:=h
 have e:Hv g=Hv f:=by funext a;unfold Hv;rw[h1]
 unfold wH sL pD
 rw[h4,h2,e,h1]
theorem Ya (r:Realm) (forum:Int) {f g:File} (h:SameF f g) (day:Int):NQ r forum g day=NQ r forum f day:=by
 have ha:=h.at_ day
 unfold NQ
 rw[ha.signs,h.bill,XE ha,PJ r forum 6 ha]
theorem Uh {f g:File} (h:SameF f g) (sign day:Int):vu g sign day=vu f sign day:=by
 unfold vu
 rw[h.signs,h.acts]
theorem Yt {f g:File} (h:SameF f g) (sign:Int) (n:Nat):GD g sign n=GD f sign n:=by
 unfold GD
 rw[h.alters,h.bill]
def rK (v:View) (g:File):View:={v with file:=g}
theorem FK {v:View} {g:File} (h:SameF v.file g) {s:Int} (hf:FSame v.file g s) (q:Int):ji (rK v g) q s=ji v q s:=by
 unfold ji
 have:=Zm v.realm v.forum q (c:=⟨v.file,s,s,-1,v.due,v.day⟩) h (hf.at_ h.signs v.day) rfl
 exact congrArg YX this
theorem Wr {v:View} {g:File} (h:SameF v.file g) {s:Int} (hq:ji (rK v g) 4 s=ji v 4 s):AZ (rK v g) s=AZ v s:=by
 unfold AZ
 rw[hq]
 have e1:(rK v g).file.alters=v.file.alters:=h.alters
 have e2:I7 (rK v g).file s v.file.alters.length=I7 v.file s v.file.alters.length:=by unfold I7;rw[e1]
 have e3:LB (rK v g).file=LB v.file:=by unfold LB;rw[e1]
 have e4:=Yt (g:=(rK v g).file) h s v.file.alters.length
 rw[e1,e2,e3,e4]
theorem Yf {v:View} {g:File} (h:SameF v.file g) {s:Int} (hf:FSame v.file g s):Om (rK v g) s=Om v s:=by
 have e1:=FK h hf 1
 have e2:=FK h hf 2
 have e4:=FK h hf 4
 have et:=Wr h e4
 have es:=Uh (g:=(rK v g).file) h s v.day
 unfold Om
 rw[e1,e2,et]
 simp only[show(rK v g).file.signs=v.file.signs from h.signs,show(rK v g).day=v.day from rfl,show(rK v g).form=v.form from rfl,es]
theorem Xo (r:Realm) (forum:Int) {f g:File} (h:SameF f g) (day:Int):jx r forum g day=rK (jx r forum f day) (atF g day):=by
 have ha:=h.at_ day
 unfold jx rK
 rw[PJ r forum 0 ha,Ya r forum ha]
theorem Ug (r:Realm) (forum:Int) {f g:File} (h:SameF f g) {s:Int} (hf:FSame f g s) (day:Int):lH r forum g s day=lH r forum f s day:=by
 have ha:=h.at_ day
 have e:=Yf (v:=jx r forum f day) ha (hf.at_ h.signs day)
 unfold lH
 rw[Xo r forum h,e]
 simp only[show(rK (jx r forum f day) (atF g day)).file.signs=(jx r forum f day).file.signs from ha.signs]
def Gb (f:File) (fs:List Fact) (s:Int):File:={f with facts:=fs.filter (fun x=>decide (x.at_≠s))++f.facts.filter (fun x=>decide (x.at_=s))}
theorem Ur (f:File) (fs:List Fact) (s:Int):SameF f (Gb f fs s)∧FSame f (Gb f fs s) s:=by
 refine⟨⟨rfl,rfl,rfl,rfl⟩,fun k=>?_⟩
 unfold br
 have h1:∀l:List Fact,(l.filter (fun x=>decide (x.at_≠s))).find? (nF k s)=none:=by
  intro l
  rw[List.find?_eq_none]
  intro x hx
  have:=(List.mem_filter.mp hx).2
  simp at this
  simp[nF,this]
 have h2:∀l:List Fact,(l.filter (fun x=>decide (x.at_=s))).find? (nF k s)=l.find? (nF k s):=by
  intro l
  induction l with
  |nil=>rfl
  |cons x l ih=>
   by_cases hx:x.at_=s
   ·simp only[List.filter_cons,hx,decide_true,if_true,List.find?_cons,ih]
   ·have:nF k s x=false:=by simp[nF,hx]
    rw[List.filter_cons,if_neg (by simp[hx]),ih,List.find?_cons,this]
 have e:(Gb f fs s).facts.find? (nF k s)=f.facts.find? (nF k s):=by
  show(fs.filter (fun x=>decide (x.at_≠s))++f.facts.filter (fun x=>decide (x.at_=s))).find? _=_
  rw[List.find?_append,h1,h2]
  rfl
 rw[e]
end Rm
set_option linter.unusedSimpArgs false
set_option linter.unusedVariables false
namespace Rm
open Go Go.Proofs Cx
theorem Wx {r:Realm} {f:File} (h:MH r f=true):f.facts.length≤220:=by
 unfold MH AR at h
 simp only[Bool.and_eq_true,decide_eq_true_eq] at h
 have:=h.1.1.2
 simp[WK] at this
 omega
theorem MX (r:Realm) (hr:r.OK) (forum:Int) (f:File) (sign day:Int) (fs:List Fact):Runs T wF [aw r,.int forum,aQ f,.int sign,.int day,facts fs] (.bool true):=by
 refine .of_tree rfl FQ Ae ?_
 simp[mO]
 refine⟨_,Uz,_,QZ r f hr,?_⟩
 cases hg:MH r f
 ·simp[hg]
 by_cases hl:100<fs.length
 ·have hl':(100:Int)<fs.length:=by omega
  simp[hg,hl']
 have hl':¬(100:Int)<fs.length:=by omega
 have G:=ZI hr hg
 simp[hg,hl']
 refine EvP.forRounds fs.length (fun k=>[.int k]) (fun k=>[TY f.bill (signs f.signs) (alters f.alters) (acts f.acts) (sr ((fs.take k).filter (fun x=>decide (x.at_≠sign)))),facts ((fs.take k).filter (fun x=>decide (x.at_≠sign)))]) ?_ (fun k hk=>?_) ?_
 ·simp[facts]
  rfl
 ·have hw:=au hk (by omega)
  have ht:=kz (fun x:Fact=>decide (x.at_≠sign)) fs hk
  rw[ht]
  have hlen:((fs.take k).filter (fun x=>decide (x.at_≠sign))).length≤k:=Nat.le_trans (List.length_filter_le _ _) (by simp;omega)
  generalize (fs.take k).filter (fun x=>decide (x.at_≠sign))=A at*
  by_cases hd:fs[k].at_=sign
  ·simp[fO,db,hk,hw,hd]
  ·simp[fO,db,hk,hw,hd]
   exact⟨by omega,rfl,by simp[facts]⟩
 ·simp[fO,db]
  have hA':fs.filter (fun x=>decide (x.at_≠sign))=fs.filter (fun x=> !decide (x.at_=sign)):=by
   congr 1
   funext x
   simp
  have hfew:FewS (Gb f fs sign):=by
   refine⟨G.few.signs,G.few.alters,G.few.acts,?_⟩
   show(_++_:List Fact).length≤1000
   have h1:=List.length_filter_le (fun x:Fact=>decide (x.at_≠sign)) fs
   have h2:=List.length_filter_le (fun x:Fact=>decide (x.at_=sign)) f.facts
   have h3:=Wx hg
   rw[List.length_append]
   omega
  have e1:=sy r G.right G.rightD forum f sign day G.few
  have e2:=sy r G.right G.rightD forum (Gb f fs sign) sign day hfew
  obtain⟨hs1,hs2⟩:=Ur f fs sign
  rw[Ug r forum hs1 hs2 day] at e2
  have hal:aQ (Gb f fs sign)=TY f.bill (signs f.signs) (alters f.alters) (acts f.acts) (facts (fs.filter (fun x=> !decide (x.at_=sign))++f.facts.filter (fun x=>decide (x.at_=sign)))):=by
   rw[←hA']
   rfl
  rw[hal] at e2
  generalize fs.filter (fun x=> !decide (x.at_=sign))=A at*
  have hAl:A.length≤100:=by
   rw[←hA']
   have h1:=List.length_filter_le (fun x:Fact=>decide (x.at_≠sign)) fs
   omega
  refine EvP.forRounds f.facts.length (fun k=>[.int k]) (fun k=>[TY f.bill (signs f.signs) (alters f.alters) (acts f.acts) (sr (A++(f.facts.take k).filter (fun x=>decide (x.at_=sign)))),facts (A++(f.facts.take k).filter (fun x=>decide (x.at_=sign)))]) ?_ (fun k hk=>?_) ?_
  ·simp[facts]
  ·have hw:=au hk (by have:=G.few.facts;omega)
   have ht:=kz (fun x:Fact=>decide (x.at_=sign)) f.facts hk
   rw[ht]
   have hlen:((f.facts.take k).filter (fun x=>decide (x.at_=sign))).length≤k:=Nat.le_trans (List.length_filter_le _ _) (by simp;omega)
   generalize (f.facts.take k).filter (fun x=>decide (x.at_=sign))=B at*
   have hfl:=G.few.facts
   by_cases hd:f.facts[k].at_=sign
   ·simp[fP,dc,hk,hw,hd,←List.append_assoc]
    exact⟨by omega,rfl,by simp[facts]⟩
   ·simp[fP,dc,hk,hw,hd]
  ·simp[fP,dc]
   generalize lH r forum f sign day=E at*
   refine⟨_,e1,_,e2,?_⟩
   simp
end Rm
