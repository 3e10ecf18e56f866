/-
  Shared texts of this claim.
-/
import Derived.Test.YtepfoekldooaeaaDoorKAO
import Derived.Test.YtepfoekldooaeaaDoorKAN
set_option linter.unusedSimpArgs false
set_option linter.unusedVariables false
namespace Rm
open Go Go.Proofs Cx
def iM (f:File)(i:Nat):Int:=if i=0 then f.bill.day else(f.signs.getD (i-1) default).day
def z8 (f:File)(i:Nat)(s:Sign):Bool:=(f.signs.take i).any fun x=>(decide (s.kind=1)&&decide (x.kind=1))&&decide (x.part=s.part)
def uX (r:Realm)(f:File)(i:Nat):Int:=
 let s:=f.signs.getD i default
 if wi s.part 0 (f.bill.parts-1)=false then 15
 else if aC s.who r.firms.length=false∨aC s.city r.cities.length=false then 1
 else if wi s.day (iM f i) 100000=false∨(i=0∧¬s.day=iM f i) then 13
 else if xe r f i=false then 14
 else if z8 f i s=true then 5 else 0
theorem UB (r:Realm)(hr:Small r)(f:File)(hp:1≤f.bill.parts∧f.bill.parts≤4)(i:Nat)(h:i<f.signs.length)(hl:f.signs.length≤100000):au T So [bH r,cW f,.int i] (.int (uX r f i)):=by
 refine .of_tree rfl XQ an3 ?_;have kq:=hr.firms;have hci:=hr.cities;have ic:IntKind.i64.wrap ((r.firms.length:Int)-1)=(r.firms.length:Int)-1:=cd (by omega);have ej:IntKind.i64.wrap ((r.cities.length:Int)-1)=(r.cities.length:Int)-1:=cd (by omega);have yu:IntKind.i64.wrap (f.bill.parts-1)=f.bill.parts-1:=cd (by omega);have hs:f.signs.getD i default=f.signs[i]:=by simp[h]
 generalize hX:uX r f i=X;unfold uX at hX;simp only[hs] at hX;simp[Mp,h,ic,ej,yu];refine⟨_,dw _ _ _,?_⟩;cases a1:wi f.signs[i].part 0 (f.bill.parts-1)
 ·simpa [a1] using hX
 simp[a1] at hX ⊢;refine⟨_,dw _ _ _,?_⟩;rw[tQ] at hX;cases a2:wi f.signs[i].who 0 ((r.firms.length:Int)-1)
 ·simpa [a2] using hX
 simp[a2] at hX ⊢;refine⟨_,dw _ _ _,?_⟩;rw[tQ] at hX;cases a3:wi f.signs[i].city 0 ((r.cities.length:Int)-1)
 ·simpa [a3] using hX
 simp[a3] at hX ⊢;refine⟨by omega,?_⟩;have Cd:min i f.signs.length=i:=by omega
 refine aU.forRounds i (fun k=>[.int (iM f k),.bool ((f.signs.take k).any fun x=>(decide (f.signs[i].kind=1)&&decide (x.kind=1))&&decide (x.part=f.signs[i].part)),.int k]) (fun _=>[]) ?_ (fun k hk=>?_) ?_
 ·simp[iM]
 ·have hw:=bM hk (by omega);have bB:k<f.signs.length:=by omega
  have hf:iM f (k+1)=f.signs[k].day:=by simp[iM,bB]
  rw[List.take_succ_eq_append_getElem bB,List.any_append];generalize ((f.signs.take k).any fun x=>(decide (f.signs[i].kind=1)&&decide (x.kind=1))&&decide (x.part=f.signs[i].part))=A;simp[Vs,E9,hk,bB,h,hw,hf,Cd];cases A
  ·by_cases e1:f.signs[i].kind=1<;>by_cases e2:f.signs[k].kind=1<;>simp[e1,e2]
  ·simp
 ·have ht:z8 f i f.signs[i]=true↔∃x,x∈List.take i f.signs∧(f.signs[i].kind=1∧x.kind=1)∧x.part=f.signs[i].part:=by simp[z8]
  simp[Vs,E9,Cd,h];refine⟨_,dw _ _ _,?_⟩;by_cases a4:wi f.signs[i].day (iM f i) 100000=false∨(i=0∧¬f.signs[i].day=iM f i)
  ·rw[if_pos a4] at hX;rw[if_pos (by simpa using a4)];exact hX
  rw[if_neg a4] at hX;rw[if_neg (by simpa using a4)];refine⟨_,alq r hr f i h hl,?_⟩;cases a5:xe r f i
  ·simpa [a5] using hX
  simp[a5] at hX;simp only[abp,if_true];rw[←hX];by_cases a6:z8 f i f.signs[i]=true
  ·rw[if_pos a6,if_pos (ht.1 a6)]
  ·rw[if_neg a6,if_neg (fun x=>a6 (ht.2 x))]
def Ag (a:Act)(to at_ own:Bool):Bool:=
 if a.kind=0∨a.kind=1∨a.kind=2 then(to&&decide (a.at_=-1))&&decide (a.sum=0)
 else if a.kind=3∨a.kind=4∨a.kind=5 then((to&&decide (a.at_=-1))&&wi a.sum 0 1099511627776)&&wi a.form 0 1
 else if a.kind=6 then(to&&own)&&wi a.sum 1 1099511627776
 else if a.kind=9 then(decide (a.to=-1)&&own)&&decide (a.sum=0)
 else(decide (a.to=-1)&&at_)&&decide (a.sum=0)
def vk (f:File)(a:Act):Bool:=aC a.at_ f.signs.length&&uY f a.at_ a.part
def Ka (f:File)(a:Act):Bool:=vk f a&&decide ((dx f a.at_).who=a.who)
def oD (r:Realm)(f:File)(a:Act):Bool:=
 if aC a.who r.firms.length=false∨(¬a.kind=4∧¬a.form=0) then false else Ag a (aC a.to r.firms.length) (vk f a) (Ka f a)
theorem alm (r:Realm)(hr:Small r)(f:File)(a:Act)(hl:f.signs.length≤100000):au T Sj [bH r,cW f,fZ a] (.bool (oD r f a)):=by
 refine .of_tree rfl XK anX ?_;have kq:=hr.firms;have ic:IntKind.i64.wrap ((r.firms.length:Int)-1)=(r.firms.length:Int)-1:=cd (by omega);have ej:IntKind.i64.wrap ((f.signs.length:Int)-1)=(f.signs.length:Int)-1:=cd (by omega);generalize hX:oD r f a=X;unfold oD Ka vk at hX;simp[Mj,ic,ej];refine⟨_,dw _ _ _,?_⟩;rw[←tQ];have tJ:=dw a.to 0 ((r.firms.length:Int)-1);have yw:=dw a.who 0 ((r.firms.length:Int)-1);rw[←tQ] at tJ yw;generalize aC a.to r.firms.length=tt at*;generalize aC a.who r.firms.length=ww at*;have fin:∀at_ own:Bool,(if ww=false∨(¬a.kind=4∧¬a.form=0) then false else Ag a tt at_ own)=X→
  if ww=false∨(¬a.kind=4∧¬a.form=0) then X=false
  else if a.kind=0∨a.kind=1∨a.kind=2 then(if tt=true∧a.at_=-1 then D.bool (decide (a.sum=0)) else D.bool false)=D.bool X
  else if a.kind=3∨a.kind=5∨a.kind=4 then
        if tt=true∧a.at_=-1 then
         ∃d,au (cr tab ext) yK [D.int a.sum,D.int 0,D.int 1099511627776] d∧
          if(tt=true∧a.at_=-1)∧d.b=true then
             ∃wL,au (cr tab ext) yK [D.int a.form,D.int 0,D.int 1] wL∧(if(tt=true∧a.at_=-1)∧d.b=true then wL else D.bool false)=D.bool X
          else(if(tt=true∧a.at_=-1)∧d.b=true then D.none else D.bool false)=D.bool X
        else D.bool false=D.bool X
  else if a.kind=6 then
        if tt=true∧own=true then ∃wL,au (cr tab ext) yK [D.int a.sum,D.int 1,D.int 1099511627776] wL∧(if tt=true∧own=true then wL else D.bool false)=D.bool X
        else(if tt=true∧own=true then D.none else D.bool false)=D.bool X
  else if a.kind=9 then(if a.to=-1∧own=true then D.bool (decide (a.sum=0)) else D.bool false)=D.bool X
  else(if a.to=-1∧at_=true then D.bool (decide (a.sum=0)) else D.bool false)=D.bool X:=by
  intro at_ own hX;by_cases p:ww=false∨(¬a.kind=4∧¬a.form=0)
  ·rw[if_pos p] at hX ⊢;exact hX.symm
  rw[if_neg p] at hX ⊢;unfold Ag at hX;by_cases k0:a.kind=0∨a.kind=1∨a.kind=2
  ·rw[if_pos k0] at hX ⊢;rw[←hX];by_cases e:tt=true∧a.at_=-1
   ·simp[e]
   ·rw[if_neg e];cases tt<;>simp at e ⊢;simp[e]
  rw[if_neg k0] at hX ⊢;by_cases k3:a.kind=3∨a.kind=4∨a.kind=5
  ·rw[if_pos k3] at hX;rw[if_pos (by omega),←hX];by_cases e:tt=true∧a.at_=-1
   ·rw[if_pos e];refine⟨_,dw _ _ _,?_⟩;cases wi a.sum 0 1099511627776
    ·simp
    ·simp[e];exact dw _ _ _
   ·rw[if_neg e];cases tt<;>simp at e ⊢;simp[e]
  rw[if_neg k3] at hX;rw[if_neg (by omega)];by_cases k6:a.kind=6
  ·rw[if_pos k6] at hX ⊢;rw[←hX];by_cases e:tt=true∧own=true
   ·rw[if_pos e];refine⟨_,dw _ _ _,?_⟩;simp[e]
   ·rw[if_neg e,if_neg e];cases tt<;>cases own<;>simp at e ⊢
  rw[if_neg k6] at hX ⊢;by_cases k9:a.kind=9
  ·rw[if_pos k9] at hX ⊢;rw[←hX];cases own<;>by_cases e:a.to=-1<;>simp[e]
  rw[if_neg k9] at hX ⊢;rw[←hX];cases at_<;>by_cases e:a.to=-1<;>simp[e]
 cases h1:aC a.at_ f.signs.length
 ·have hf:=fin false false (by simpa [h1] using hX);simp at hf ⊢;refine⟨_,tJ,_,yw,?_⟩;simpa using hf
 have cE:0≤a.at_∧a.at_<f.signs.length:=by simpa [aC] using h1
 have h2:a.at_.toNat<f.signs.length:=by omega
 have hs:dx f a.at_=f.signs[a.at_.toNat]:=by simp[dx,h2]
 simp[cE];refine⟨_,UC f _ _ (.inr cE),_,tJ,_,yw,?_⟩;rw[h1,hs] at hX;have hf:=fin _ _ hX;cases h3:uY f a.at_ a.part
 ·rw[h3] at hf;simpa using hf
 ·rw[h3] at hf;simpa [h2] using hf
theorem CN (a b:Int):(if a<b then b else a)=max a b:=by split<;>omega
theorem Ju (a b:Int):(if a<b then D.int b else D.int a)=D.int (max a b):=by
 rw[←CN];split<;>rfl
def tT (f:File)(i:Nat)(a:Act):Int:=
 let x:=if a.at_=-1 then f.bill.day else max f.bill.day (dx f a.at_).day
 if i=0 then x else max x (f.acts.getD (i-1) default).day
def nj (r:Realm)(f:File)(i:Nat):Int:=
 let a:=f.acts.getD i default
 if wi a.part 0 (f.bill.parts-1)=false then 15
 else if aC a.city r.cities.length=false∨wi a.kind 0 9=false then 1
 else if oD r f a=false then 14
 else if wi a.day (tT f i a) 100000=false then 13 else 0
theorem NO {r:Realm}{f:File}{a:Act}(h:oD r f a=true)(hn:¬a.at_=-1):0≤a.at_∧a.at_<f.signs.length:=by
 unfold oD at h;split at h
 ·cases h
 have key:vk f a=true→0≤a.at_∧a.at_<f.signs.length:=fun e=>by
  unfold vk at e;simp only[Bool.and_eq_true] at e;simpa [aC] using e.1
 unfold Ag Ka at h
 repeat' split at h
 all_goals simp only[Bool.and_eq_true,decide_eq_true_eq] at h
 ·exact absurd h.1.2 hn
 ·exact absurd h.1.1.2 hn
 ·exact key h.1.2.1
 ·exact key h.1.2.1
 ·exact key h.1.2
theorem aln (r:Realm)(hr:Small r)(f:File)(hp:1≤f.bill.parts∧f.bill.parts≤4)(hl:f.signs.length≤100000)(xS:f.acts.length≤100000):au T Sk [bH r,cW f] (.int (dQ f.acts.length (nj r f))):=by
 refine .of_tree rfl XL anY ?_;have hci:=hr.cities;have ej:IntKind.i64.wrap ((r.cities.length:Int)-1)=(r.cities.length:Int)-1:=cd (by omega);have yu:IntKind.i64.wrap (f.bill.parts-1)=f.bill.parts-1:=cd (by omega);simp[Mk];refine sr f.acts.length (nj r f) (fun k=>[.int 0,.int k]) (fun _=>[]) ?_ (fun k hk ho=>?_) (fun k hk ho hb=>?_) (fun hj=>?_)
 ·simp
 case' refine_2=>have hb:nj r f k=nj r f k:=rfl
 case' refine_3=>rw[hb]
 case refine_4=>simp[Vq,E7,hj]
 all_goals
  have hw:=bM hk (by omega);have hs:f.acts.getD k default=f.acts[k]:=by simp[hk]
  clear hb;generalize hX:nj r f k=X at*;unfold nj at hX;simp only[hs] at hX;simp[Vq,E7,hk,ej,yu,hw];refine⟨_,dw _ _ _,?_⟩;cases a1:wi f.acts[k].part 0 (f.bill.parts-1)
  ·simp[a1] at hX ⊢
   first|exact hX|(exfalso;omega)
  simp[a1] at hX ⊢;refine⟨_,dw _ _ _,?_⟩;rw[tQ] at hX;cases a2:wi f.acts[k].city 0 ((r.cities.length:Int)-1)
  ·simp[a2] at hX ⊢
   first|exact hX|(exfalso;omega)
  simp[a2] at hX ⊢;refine⟨_,dw _ _ _,?_⟩;cases a3:wi f.acts[k].kind 0 9
  ·simp[a3] at hX ⊢
   first|exact hX|(exfalso;omega)
  simp[a3] at hX ⊢;refine⟨_,alm r hr f f.acts[k] hl,?_⟩;cases a4:oD r f f.acts[k]
  ·simp[a4] at hX ⊢
   first|exact hX|(exfalso;omega)
  simp[a4] at hX ⊢;unfold tT at hX;by_cases k0:k=0
  ·subst k0;by_cases e1:f.acts[0].at_=-1
   ·simp[e1] at hX;simp[e1];refine⟨_,dw _ _ _,?_⟩;split at hX
    ·rename_i e;simp[e]
     first|exact hX|(exfalso;omega)
    ·rename_i e
     first|(exfalso;omega)|simp[e]
   ·obtain⟨h5,h6⟩:=NO a4 e1;have h7:f.acts[0].at_.toNat<f.signs.length:=by omega
    have h8:dx f f.acts[0].at_=f.signs[f.acts[0].at_.toNat]:=by simp[dx,h7]
    simp[e1,h8] at hX;simp[e1,h5,h6,h7,Ju,CN];refine⟨_,dw _ _ _,?_⟩;split at hX
    ·rename_i e;simp[e]
     first|exact hX|(exfalso;omega)
    ·rename_i e
     first|(exfalso;omega)|simp[e]
  ·have bV:IntKind.i64.wrap ((k:Int)-1)=(k:Int)-1:=cd (by omega);have bW:((k:Int)-1).toNat=k-1:=by omega
   have ji:k-1<f.acts.length:=by omega
   have tB:0<k:=by omega
   by_cases e1:f.acts[k].at_=-1
   ·simp[k0,e1,ji] at hX;simp[e1,tB,bV,bW,ji,Ju,CN];refine⟨by omega,_,dw _ _ _,?_⟩;split at hX
    ·rename_i e;simp[e]
     first|exact hX|(exfalso;omega)
    ·rename_i e
     first|(exfalso;omega)|simp[e]
   ·obtain⟨h5,h6⟩:=NO a4 e1;have h7:f.acts[k].at_.toNat<f.signs.length:=by omega
    have h8:dx f f.acts[k].at_=f.signs[f.acts[k].at_.toNat]:=by simp[dx,h7]
    simp[k0,e1,ji,h8] at hX;simp[e1,tB,bV,bW,ji,h5,h6,h7,Ju,CN];refine⟨by omega,_,dw _ _ _,?_⟩;split at hX
    ·rename_i e;simp[e]
     first|exact hX|(exfalso;omega)
    ·rename_i e
     first|(exfalso;omega)|simp[e]
end Rm
namespace Rm
open Go Go.Proofs Cx
def lf (a b:Int):Int:=if a<b then-1 else if b<a then 1 else 0
theorem Q4 (a:Int):au T RZ [.int a] (.bool false):=by
 refine .of_tree rfl Xo anB ?_;simp[L8]
theorem NG (a b:Int):au T RX [.int a,.int b] (.int (lf a b)):=by
 refine .of_tree rfl Xm anz ?_;simp[L6];refine⟨_,Q4 a,_,Q4 b,?_⟩;unfold lf;by_cases h1:a<b
 ·simp[h1]
 by_cases h2:b<a<;>simp[h1,h2]
theorem WL (l:List Int)(hl:l.length≤100000):au T RY [ints l] (.int (dQ l.length fun k=>l.getD k 0)):=by
 refine .of_tree rfl Xn anA ?_;simp[L7];refine sr l.length (fun k=>l.getD k 0) (fun k=>[.int 0,.int k]) (fun _=>[]) ?_ (fun k hk ho=>?_) (fun k hk ho hb=>?_) (fun hj=>?_)
 ·simp
 ·have hw:=bM hk (by omega);have hx:l[k]=0:=by simpa [hk] using ho
  simp[KX,zb,hk,hx,hw]
 ·have hx:¬l[k]=0:=by simpa [hk] using ho
  simp only[List.getD_eq_getElem?_getD] at hb ⊢;rw[hb];simp[KX,zb,hk,hx]
 ·simp only[List.getD_eq_getElem?_getD] at hj ⊢;rw[hj];simp[KX,zb]
theorem or2 (a b:Int):(dQ 2 fun k=>[a,b].getD k 0)=if a=0 then b else a:=by
 have e:List.range 2=[0,1]:=rfl;unfold dQ;rw[e];by_cases ha:a=0<;>by_cases hb:b=0<;>simp[ha,hb]
def sH (x y:Fact):Prop:=x.at_<y.at_∨(x.at_=y.at_∧x.kind<y.kind)
instance (x y:Fact):Decidable (sH x y):=by unfold sH;infer_instance
theorem W2 (x y:Fact):0≤(if lf x.at_ y.at_=0 then lf x.kind y.kind else lf x.at_ y.at_)↔¬sH x y:=by
 unfold lf sH
 repeat' split
 all_goals omega
def qM (f:File)(i:Nat):Int:=
 let x:=f.facts.getD i default
 if wi x.kind 0 4=false then 1 else if aC x.at_ f.signs.length=false then 1 else if wi x.n 0 1=false then 1
 else if i=0 then 0 else if sH (f.facts.getD (i-1) default) x then 0 else 5
theorem alp (f:File)(hl:f.signs.length≤100000)(hlf:f.facts.length≤100000):au T Sm [cW f] (.int (dQ f.facts.length (qM f))):=by
 refine .of_tree rfl XN an0 ?_;have ej:IntKind.i64.wrap ((f.signs.length:Int)-1)=(f.signs.length:Int)-1:=cd (by omega);simp[Mm];refine sr f.facts.length (qM f) (fun k=>[.int 0,.int k]) (fun _=>[]) ?_ (fun k hk ho=>?_) (fun k hk ho hb=>?_) (fun hj=>?_)
 ·simp
 case' refine_2=>have hb:qM f k=qM f k:=rfl
 case' refine_3=>rw[hb]
 case refine_4=>simp[Vr,E8,hj]
 all_goals
  have hw:=bM hk (by omega);have hs:f.facts.getD k default=f.facts[k]:=by simp[hk]
  clear hb;generalize hX:qM f k=X at*;unfold qM at hX;simp only[hs] at hX;simp[Vr,E8,hk,ej,hw];refine⟨_,dw _ _ _,?_⟩;cases a1:wi f.facts[k].kind 0 4
  ·simp[a1] at hX ⊢
   first|exact hX|(exfalso;omega)
  simp[a1] at hX ⊢;refine⟨_,dw _ _ _,?_⟩;rw[tQ] at hX;cases a2:wi f.facts[k].at_ 0 ((f.signs.length:Int)-1)
  ·simp[a2] at hX ⊢
   first|exact hX|(exfalso;omega)
  simp[a2] at hX ⊢;refine⟨_,dw _ _ _,?_⟩;cases a3:wi f.facts[k].n 0 1
  ·simp[a3] at hX ⊢
   first|exact hX|(exfalso;omega)
  simp[a3] at hX ⊢;by_cases k0:k=0
  ·subst k0;simp at hX ⊢
   first|(exfalso;omega)|done
  ·have bV:IntKind.i64.wrap ((k:Int)-1)=(k:Int)-1:=cd (by omega);have bW:((k:Int)-1).toNat=k-1:=by omega
   have ji:k-1<f.facts.length:=by omega
   simp[k0,ji] at hX;simp[k0,bV,bW,ji];refine⟨by omega,_,NG _ _,_,NG _ _,?_⟩;have ho:=WL [lf f.facts[k-1].at_ f.facts[k].at_,lf f.facts[k-1].kind f.facts[k].kind] (by simp);simp only[List.length_cons,List.length_nil] at ho;rw[or2] at ho;refine⟨_,ho,?_⟩;have ha:=W2 f.facts[k-1] f.facts[k];generalize (if lf f.facts[k-1].at_ f.facts[k].at_=0 then lf f.facts[k-1].kind f.facts[k].kind else lf f.facts[k-1].at_ f.facts[k].at_)=n at*;clear ho;by_cases e:sH f.facts[k-1] f.facts[k]
   ·have hn:¬0≤n:=fun h=>ha.1 h e;simp[e] at hX;simp[hn]
    first|done|(exfalso;omega)
   ·have hn:0≤n:=ha.2 e;simp[e] at hX;simp[hn]
    first|exact hX|(exfalso;omega)
def sI (f:File)(i:Nat):Int:=
 let x:=f.alters.getD i default
 if wi x.at_ ((if i=0 then 0 else(f.alters.getD (i-1) default).at_)+1) f.signs.length=false then 1 else if wi x.sum 1 1099511627776=false then 3 else 0
structure PaperOK (r:Realm) (f:File):Prop where
 full:(f.signs.length≤40∧f.alters.length≤4)∧f.acts.length≤100∧f.facts.length≤200
 bill:BillOK r f.bill
 ne:f.signs≠[]
 signs:dQ f.signs.length (uX r f)=0
 alters:dQ f.alters.length (sI f)=0
 acts:dQ f.acts.length (nj r f)=0
 facts:dQ f.facts.length (qM f)=0
theorem alk (r:Realm)(hs:Small r)(f:File)(Hh:f.OK):∃d,au T Si [bH r,cW f] d∧lb (PaperOK r f) d:=by
 refine au.ex_of_tree rfl XJ anW ?_;simp[Mi];by_cases hf:(f.signs.length≤40∧f.alters.length≤4)∧f.acts.length≤100∧f.facts.length≤200
 case neg=>
  rw[if_pos (by omega)];exact .no (fun h=>hf h.full) (by decide)
 rw[if_neg (by omega)];obtain⟨d,hb,e,rfl,he⟩:=apm r hs f.bill;refine⟨_,hb,?_⟩;by_cases e0:e=0
 case neg=>
  simp[e0];exact .no (fun h=>e0 (he.2 h.bill)) e0
 have BQ:=he.1 e0;simp[e0];by_cases av:f.signs=[]
 ·simp[av];exact .no (fun h=>h.ne av) (by decide)
 simp[av];refine sr f.signs.length (uX r f) (fun k=>[.int 0,.int k]) (fun _=>[]) ?_ (fun k hk ho=>?_) (fun k hk ho hb=>?_) (fun hj=>?_)
 ·simp
 ·have hw:=bM hk (by omega);simp[K0,zd,hk,hw];refine⟨_,UB r hs f BQ.parts k hk (by omega),?_⟩;simp[ho]
 ·simp[K0,zd,hk];refine⟨_,UB r hs f BQ.parts k hk (by omega),?_⟩;simp[ho];exact .no (fun h=>ho (by rw[←hb];exact h.signs)) ho
 simp[K0,zd];have hZ:∀k,k<f.alters.length→(∀j,j<k→sI f j=0)→IntKind.i64.wrap ((if k=0 then 0 else(f.alters.getD (k-1) default).at_)+1)=(if k=0 then 0 else(f.alters.getD (k-1) default).at_)+1:=by
  intro k hk hj;refine cd ?_;by_cases k0:k=0
  ·rw[if_pos k0];omega
  ·rw[if_neg k0];have h1:=hj (k-1) (by omega);have bV:k-1<f.alters.length:=by omega
   have h2:=(Hh.2.2.1.2 _ (List.getElem_mem bV)).1;have h3:f.alters.getD (k-1) default=f.alters[k-1]:=by simp[bV]
   unfold sI at h1;rw[h3] at h1 ⊢;simp only at h1;generalize (if k-1=0 then(0:Int) else(f.alters.getD (k-1-1) default).at_)=L0 at h1;split at h1
   ·cases h1
   ·rename_i hh;simp[wi] at hh;unfold aR at h2;omega
 refine aU.scan f.alters.length (fun k=>sI f k=0) (fun k=>[.int 0,.int (if k=0 then 0 else(f.alters.getD (k-1) default).at_),.int k]) (fun _=>[]) ?_ (fun k hk q6 ho=>?_) (fun k hk q6 ho=>?_) (fun xQ=>?_)
 ·simp
 ·have hw:=bM hk (by omega);have hl:=hZ k hk q6;generalize hL:(if k=0 then 0 else(f.alters.getD (k-1) default).at_)=L at*;have hs:f.alters.getD k default=f.alters[k]:=by simp[hk]
  unfold sI at ho;simp only[hs,hL] at ho;simp[K1,ze,hk,hl];refine⟨_,dw _ _ _,?_⟩;cases a1:wi f.alters[k].at_ (L+1) f.signs.length
  ·simp[a1] at ho
  simp[a1] at ho ⊢;refine⟨_,dw _ _ _,?_⟩;simp[ho,hw]
 ·have hl:=hZ k hk q6;have xK:=G6 hk q6 ho;generalize hL:(if k=0 then 0 else(f.alters.getD (k-1) default).at_)=L at*;have hs:f.alters.getD k default=f.alters[k]:=by simp[hk]
  have bad:∀e:Int,e≠0→lb (PaperOK r f) (.int e):=fun e h=>.no (fun h=>ho (by rw[←xK];exact h.alters)) h;unfold sI at ho;simp only[hs,hL] at ho;simp[K1,ze,hk,hl];refine⟨_,dw _ _ _,?_⟩;cases a1:wi f.alters[k].at_ (L+1) f.signs.length
  ·simp;exact bad 1 (by decide)
  simp[a1] at ho ⊢;refine⟨_,dw _ _ _,?_⟩;simp[ho];exact bad 3 (by decide)
 have xQ:=G7 xQ;simp[K1,ze];refine⟨_,aln r hs f BQ.parts (by omega) (by omega),?_⟩;by_cases e3:dQ f.acts.length (nj r f)=0
 case neg=>
  simp[e3];exact .no (fun h=>e3 h.acts) e3
 simp[e3];refine⟨_,alp f (by omega) (by omega),?_⟩;exact⟨_,rfl,fun h=>⟨hf,BQ,av,hj,xQ,e3,h⟩,fun h=>h.facts⟩
end Rm
namespace Rm
open Go Go.Proofs Cx
end Rm
namespace Rm
open Go Go.Proofs Cx
end Rm
namespace Rm
open Go Go.Proofs Cx
theorem UA {α:Type}(key:α→Int)(l:List α)(h:∀i (h1:i+1<l.length),key (l[i]'(by omega))≤key l[i+1]):l.Pairwise fun a b=>key a≤key b:=by
 rw[List.pairwise_iff_getElem];intro i j hi hj cu;obtain⟨d,rfl⟩:∃d,j=i+1+d:=⟨j-i-1,by omega⟩
 clear cu
 induction d with
 |zero=>exact h i hj
 |succ d ih=>exact Int.le_trans (ih (by omega)) (h (i+1+d) hj)
structure Sorted (f:File):Prop where
 signs:f.signs.Pairwise fun a b=>a.day≤b.day
 acts:f.acts.Pairwise fun a b=>a.day≤b.day
 au5:∀s,s∈f.signs→0≤s.day
 aday:∀a,a∈f.acts→0≤a.day
structure SignOK (r:Realm) (f:File) (i:Nat) (s:Sign):Prop where
 part:0≤s.part∧s.part≤f.bill.parts-1
 who:0≤s.who∧s.who<r.firms.length
 city:0≤s.city∧s.city<r.cities.length
 day:iM f i≤s.day∧s.day≤100000
 fits:xe r f i=true
 once:z8 f i s=false
theorem PaperOK.sign {r:Realm}{f:File}(h:PaperOK r f)(i:Nat)(hi:i<f.signs.length):SignOK r f i f.signs[i]:=by
 have h1:=G5 h.signs i hi;have hs:f.signs.getD i default=f.signs[i]:=by simp[hi]
 unfold uX at h1;simp only[hs] at h1;split at h1
 ·cases h1
 rename_i a1;split at h1
 ·cases h1
 rename_i a2;split at h1
 ·cases h1
 rename_i a3;split at h1
 ·cases h1
 rename_i a4;split at h1
 ·cases h1
 rename_i a5;simp[wi,aC] at a1 a2 a3;exact⟨⟨by omega,by omega⟩,⟨by omega,by omega⟩,⟨by omega,by omega⟩,⟨by omega,by omega⟩,by simpa using a4,by simpa using a5⟩
structure u9 (r:Realm) (f:File) (i:Nat) (a:Act):Prop where
 part:0≤a.part∧a.part≤f.bill.parts-1
 city:0≤a.city∧a.city<r.cities.length
 kind:0≤a.kind∧a.kind≤9
 fits:oD r f a=true
 day:tT f i a≤a.day∧a.day≤100000
theorem PaperOK.act {r:Realm}{f:File}(h:PaperOK r f)(i:Nat)(hi:i<f.acts.length):u9 r f i f.acts[i]:=by
 have h1:=G5 h.acts i hi;have hs:f.acts.getD i default=f.acts[i]:=by simp[hi]
 unfold nj at h1;simp only[hs] at h1;split at h1
 ·cases h1
 rename_i a1;split at h1
 ·cases h1
 rename_i a2;split at h1
 ·cases h1
 rename_i a3;split at h1
 ·cases h1
 rename_i a4;simp[wi,aC] at a1 a2 a4;exact⟨⟨by omega,by omega⟩,⟨by omega,by omega⟩,⟨by omega,by omega⟩,by simpa using a3,by omega⟩
theorem Rg (f:File)(i:Nat)(a:Act):f.bill.day≤tT f i a∧(i≠0→(f.acts.getD (i-1) default).day≤tT f i a):=by
 unfold tT;refine⟨?_,fun h=>?_⟩
 ·simp only;split<;>split<;>omega
 ·simp only[if_neg h];omega
theorem PaperOK.day {r:Realm}{f:File}(h:PaperOK r f):0≤f.bill.day∧f.bill.day≤100000:=by
 have:=h.bill.range;unfold uL at this;omega
theorem Pa {r:Realm}{f:File}(h:PaperOK r f):∀i,i<f.signs.length→0≤iM f i
 |0,_=>by simp[iM];exact h.day.1
 |i+1,hi=>by
  have h1:=(h.sign i (by omega)).day.1;have h2:=Pa h i (by omega);have e:iM f (i+1)=f.signs[i].day:=by simp[iM,show i<f.signs.length by omega]
  omega
theorem PaperOK.sorted {r:Realm}{f:File}(h:PaperOK r f):Sorted f:=by
 refine⟨UA (·.day) f.signs fun i hi=>?_,UA (·.day) f.acts fun i hi=>?_,fun s hs=>?_,fun a ha=>?_⟩
 ·have h1:=(h.sign (i+1) hi).day.1;have e:iM f (i+1)=f.signs[i].day:=by simp[iM,show i<f.signs.length by omega]
  rw[e] at h1;exact h1
 ·have h1:=(h.act (i+1) hi).day.1;have h2:=(Rg f (i+1) f.acts[i+1]).2 (by omega);have e:f.acts.getD (i+1-1) default=f.acts[i]:=by simp[show i<f.acts.length by omega]
  rw[e] at h2;exact Int.le_trans h2 h1
 ·obtain⟨i,hi,rfl⟩:=List.getElem_of_mem hs;exact Int.le_trans (Pa h i hi) (h.sign i hi).day.1
 ·obtain⟨i,hi,rfl⟩:=List.getElem_of_mem ha;have h1:=(h.act i hi).day.1;have h2:=(Rg f i f.acts[i]).1;have:=h.day;omega
end Rm
namespace Rm
open Go Go.Proofs Cx
def dV (p:Nat→Bool):Nat→List Int
 |0=>[]
 |n+1=>if p n=true then dV p n++[(n:Int)] else dV p n
theorem Cw (p:Nat→Bool)(n:Nat):dV p (n+1)=if p n=true then dV p n++[(n:Int)] else dV p n:=rfl
theorem IP (p:Nat→Bool):∀n,(dV p n).length≤n
 |0=>Nat.le_refl _
 |n+1=>by
  have:=IP p n;unfold dV;split
  ·rw[List.length_append];simp;omega
  ·omega
theorem QT (p:Nat→Bool)(k:Nat):∀n,k≤n→∃t,dV p n=dV p k++t∧∀x,x∈t→(k:Int)≤x
 |0,h=>⟨[],by rw[show k=0 by omega];simp,by simp⟩
 |n+1,h=>by
  by_cases e:k=n+1
  ·exact⟨[],by rw[e];simp,by simp⟩
  obtain⟨t,h1,h2⟩:=QT p k n (by omega);rw[Cw];by_cases hp:p n=true
  ·rw[if_pos hp,h1];refine⟨t++[(n:Int)],by simp,fun x hx=>?_⟩;rcases List.mem_append.1 hx with hx|hx
   ·exact h2 x hx
   ·obtain rfl:=List.mem_singleton.1 hx;omega
  ·rw[if_neg hp];exact⟨t,h1,h2⟩
theorem ahI (p:Nat→Bool){k n:Nat}(h:k<n):(∃h2:(dV p k).length<(dV p n).length,(dV p n)[(dV p k).length]=(k:Int))↔p k=true:=by
 obtain⟨t,h1,h2⟩:=QT p (k+1) n (by omega);rw[Cw] at h1;by_cases hp:p k=true
 ·rw[if_pos hp] at h1;refine⟨fun _=>hp,fun _=>?_⟩;have hl:(dV p k).length<(dV p n).length:=by rw[h1];simp
  refine⟨hl,?_⟩;simp[h1]
 ·rw[if_neg hp] at h1;refine⟨fun⟨h3,h4⟩=>?_,fun e=>absurd e hp⟩;exfalso;have h5:(k:Int)∈t:=by
   have:(dV p n)[(dV p k).length]?=t[0]?:=by rw[h1,List.getElem?_append_right (Nat.le_refl _),Nat.sub_self]
   rw[List.getElem?_eq_getElem h3,h4] at this;exact List.mem_of_getElem? this.symm
  have:=h2 _ h5;omega
def od (r:Realm)(ar:Int)(f:File)(e:Estate)(at_:Int):Int:=nZ (jd r ar 21 ⟨f,at_,-1,-1,-1,e.day⟩)
def kX (r:Realm)(ar:Int)(f:File)(e:Estate)(a:Act):Bool:=decide (((a.kind=6∧a.who=e.firm)∧a.day≤e.day)∧od r ar f e a.at_≠-1∧e.day-a.day≤od r ar f e a.at_)
def m7 (r:Realm)(ar:Int)(f:File)(e:Estate)(k:Nat):Bool:=kX r ar f e (f.acts.getD k default)
def kV (r:Realm)(ar:Int)(f:File)(e:Estate):Nat→Int
 |0=>0
 |k+1=>if m7 r ar f e k=true then IntKind.i64.wrap (kV r ar f e k+(f.acts.getD k default).sum) else kV r ar f e k
theorem V8 (r:Realm)(ar:Int)(f:File)(e:Estate)(k:Nat):kV r ar f e (k+1)=if m7 r ar f e k=true then IntKind.i64.wrap (kV r ar f e k+(f.acts.getD k default).sum) else kV r ar f e k:=rfl
theorem WO (r:Realm)(hr:Right r)(ar:Int)(f:File)(hf:FewS f)(e:Estate)(he:0≤e.day∧e.day≤100000)(ha:∀a,a∈f.acts→0≤a.day∧a.day≤100000):
 au T R8 [bH r,.int ar,cW f,oM e] (.tup [ints (dV (m7 r ar f e) f.acts.length),.int (kV r ar f e f.acts.length)]):=by
 refine .of_tree rfl Xy anL ?_;have hl:=hf.acts;simp[Mc];refine aU.forRounds f.acts.length (fun k=>[.none,.int (kV r ar f e k),.int k]) (fun k=>[ints (dV (m7 r ar f e) k)]) ?_ (fun k hk=>?_) ?_
 ·simp[kV,dV,ints]
 ·have hw:=bM hk (by omega);have hlen:=IP (m7 r ar f e) k;have fb:f.acts.getD k default=f.acts[k]:=by simp[hk]
  have hd:=ha _ (List.getElem_mem hk);rw[Cw,V8];unfold m7 at*;rw[fb];generalize kV r ar f e k=s at*;generalize dV _ k=L at*;simp[Vo,E5,hk,hw];generalize f.acts[k]=a at*;by_cases h1:(¬a.kind=6∨¬a.who=e.firm)∨e.day<a.day
  ·have ht:kX r ar f e a=false:=by
        unfold kX;exact decide_eq_false fun h=>by omega
   rw[if_pos h1];simp[ht]
  rw[if_neg h1];refine⟨_,NU r hr ar 21 ⟨f,a.at_,-1,-1,-1,e.day⟩ hf,_,NV _,?_⟩;have ej:IntKind.i64.wrap (e.day-a.day)=e.day-a.day:=cd (by omega);have hp:nZ (jd r ar 21 ⟨f,a.at_,-1,-1,-1,e.day⟩)=od r ar f e a.at_:=rfl;simp only[GL,hp,ej];by_cases h2:¬od r ar f e a.at_=-1∧e.day-a.day≤od r ar f e a.at_
  ·have ht:kX r ar f e a=true:=by
        unfold kX;exact decide_eq_true ⟨by omega,h2⟩
   simp[ht,h2];exact⟨by omega,by simp[ints]⟩
  ·have ht:kX r ar f e a=false:=by
        unfold kX;exact decide_eq_false fun h=>h2 h.2
   rw[if_neg h2];simp[ht]
 ·simp[Vo,E5]
def WI (d:D):Prop:=∃b:Bool,d=.bool b
theorem WB (r:Realm)(hr:r.OK)(ar:Int)(f:File)(Hh:f.OK)(e:Estate):au T Sc [bH r,.int ar,cW f,oM e] (.bool true):=by
 refine .of_tree rfl XC anP ?_;have xq:∃b:Bool,au T Jz [cW f] (.bool b):=by
  have h:∃d,au T Jz [cW f] d∧WI d:=by
   refine au.ex_of_tree rfl XU an7 ?_;simp[Mr];split
   ·exact⟨_,rfl⟩
   ·exact⟨_,rfl⟩
  obtain⟨d,hd,b,rfl⟩:=h;exact⟨b,hd⟩
 simp[Md];refine⟨_,amS,_,alM r f hr,?_⟩;cases e1:ny r f
 ·simp
 have hs:Small r:=G1 hr (by simp only[ny,Bool.and_eq_true] at e1;exact e1.1.1);simp;refine⟨_,VC r hs,?_⟩;by_cases e2:ld r=0
 case neg=>simp[e2]
 simp[e2];obtain⟨b,hb⟩:=xq;refine⟨_,hb,?_⟩;cases b
 ·simp
 obtain⟨d,hd,er,rfl,he⟩:=alk r hs f Hh;simp;refine⟨_,hd,?_⟩;simp;by_cases e0:er=0
 case neg=>simp[e0]
 simp[e0];intro h1 h2;have hP:=he.1 e0;have G:=aeK hr (show BA r f=true by simp[BA,e1,e2]);have ha:∀a,a∈f.acts→0≤a.day∧a.day≤100000:=by
  intro a PL;obtain⟨i,hi,rfl⟩:=List.getElem_of_mem PL;exact⟨hP.sorted.aday _ PL,(hP.act i hi).day.2⟩
 have hl:=G.few.acts;refine⟨_,WO r G.right ar f G.few e (by omega) ha,?_⟩;refine aU.forRounds f.acts.length (fun k=>[.bool false,.int (kV r ar f e k),.int (dV (m7 r ar f e) k).length,.int k]) (fun _=>[]) ?_ (fun k hk=>?_) ?_
 ·simp[kV,dV]
 ·have hw:=bM hk (by omega);have hlen:=IP (m7 r ar f e) k;have fb:f.acts.getD k default=f.acts[k]:=by simp[hk]
  have hd:=ha _ (List.getElem_mem hk);have ly:=ahI (m7 r ar f e) hk;have hq:=ake r ar 21 ⟨f,f.acts[k].at_,-1,-1,-1,e.day⟩ (by decide);rw[Cw,V8];unfold m7 at*;rw[fb] at ly ⊢;generalize kV r ar f e k=s at*;generalize hL:dV _ k=L at*;generalize hN:dV _ f.acts.length=N at*;simp[Vp,E6,hk,hw];generalize f.acts[k]=a at*;have PO:=NU r G.right ar 21 ⟨f,a.at_,-1,-1,-1,e.day⟩ G.few;have H0:=NV (jd r ar 21 ⟨f,a.at_,-1,-1,-1,e.day⟩);have hp:nZ (jd r ar 21 ⟨f,a.at_,-1,-1,-1,e.day⟩)=od r ar f e a.at_:=rfl;rw[hp] at hq H0;clear hp;have hTd:kX r ar f e a=decide (((a.kind=6∧a.who=e.firm)∧a.day≤e.day)∧od r ar f e a.at_≠-1∧e.day-a.day≤od r ar f e a.at_):=rfl;generalize od r ar f e a.at_=n at*;have ej:IntKind.i64.wrap (a.day+n)=a.day+n:=cd (by omega);have yu:IntKind.i64.wrap ((L.length:Int)+1)=(L.length:Int)+1:=cd (by omega);have nI:(decide (a.kind=6)&&decide (a.who=e.firm)&&decide (a.day≤e.day)&&decide (0≤n)&&decide (e.day≤a.day+n))=kX r ar f e a:=by
   rw[hTd,Bool.eq_iff_iff];simp only[Bool.and_eq_true,decide_eq_true_eq];omega
  by_cases ae:L.length<N.length
  ·rw[if_pos ae];refine⟨ae,_,PO,_,H0,?_⟩;simp only[GL,ej,nI,List.getElem?_eq_getElem ae,Option.map_some,Option.getD_some,yu];cases hT:kX r ar f e a
   ·have h4:¬N[L.length]=(k:Int):=fun h=>by rw[ly.1 ⟨ae,h⟩] at hT;cases hT
    simp[h4]
   ·obtain⟨_,h4⟩:=ly.2 hT;simp[h4]
  ·rw[if_neg ae];refine⟨_,PO,_,H0,?_⟩;have hT:kX r ar f e a=false:=by
        cases hT:kX r ar f e a
        ·rfl
        ·obtain⟨h3,_⟩:=ly.2 hT;exact absurd h3 ae
   simp only[GL,ej,hT];rw[hT] at nI;simp only[Bool.and_eq_false_iff,decide_eq_false_iff_not] at nI;simp;omega
 ·simp[Vp,E6]
end Rm
