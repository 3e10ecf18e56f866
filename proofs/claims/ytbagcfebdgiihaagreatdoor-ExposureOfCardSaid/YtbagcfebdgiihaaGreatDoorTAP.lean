/-
  Shared texts of this claim.
-/
import Derived.Test.YtbagcfebdgiihaaGreatDoorTAO
import Derived.Test.YtbagcfebdgiihaaGreatDoorTAN
import Derived.KernelRfl
set_option linter.unusedSimpArgs false
set_option linter.unusedVariables false
noncomputable section
namespace Rm
open Go Go.Proofs Cx
def zj (f:File)(i part:Int):Bool:=decide (i=0)||decide ((dV f i).part=part)
theorem Zf (f:File)(i part:Int)(h:i=0∨(0≤i∧i<f.signs.length)):ak T 163 [cd f,.int i,.int part] (.bool (zj f i part)):=by
 refine .of_tree rfl (lA 45 (by kernel_rfl)) aqk ?_;unfold zj;by_cases h0:i=0
 ·simp[Jc,h0]
 ·obtain⟨h1,h2⟩:=h.resolve_left h0;have h3:i.toNat<f.signs.length:=by omega
  simp[Jc,h0,h1,h2,h3,dV]
def Eg (f:File)(i:Int)(kinds:List Int):Bool:=wi (dV f i).for_ 0 (i-1)&&(zj f (dV f i).for_ (dV f i).part&&hasB kinds (dV f (dV f i).for_).kind)
theorem anh (f:File)(i:Int)(kinds:List Int)(h:0≤i∧i<f.signs.length)(hl:f.signs.length≤100000)(hk:kinds.length≤100):ak T 162 [cd f,.int i,ints kinds] (.bool (Eg f i kinds)):=by
 refine .of_tree rfl (lA 44 (by kernel_rfl)) aqf ?_;have h1:i.toNat<f.signs.length:=by omega
 have hw:IntKind.i64.wrap (i-1)=i-1:=bE (by omega);have hs:dV f i=f.signs[i.toNat]:=by simp[dV,h1]
 unfold Eg;rw[hs];simp[QZ,h,h1,hw];refine⟨_,dU _ _ _,?_⟩;cases hb:wi f.signs[i.toNat].for_ 0 (i-1)
 ·simp
 ·have cu:0≤f.signs[i.toNat].for_∧f.signs[i.toNat].for_<f.signs.length:=by
   simp[wi] at hb;omega
  have h2:f.signs[i.toNat].for_.toNat<f.signs.length:=by omega
  have dP:dV f f.signs[i.toNat].for_=f.signs[f.signs[i.toNat].for_.toNat]:=by simp[dV,h2]
  rw[dP];simp;refine⟨_,Zf f _ _ (.inr cu),?_⟩;cases cQ:zj f f.signs[i.toNat].for_ f.signs[i.toNat].part
  ·simp
  simp[cu,h2];exact tj kinds _ (by omega)
def K5 (r:Realm)(b:Bill)(s:Sign)(B:List Int→Bool):Bool:=
 if s.kind=0 then((((decide (s.who=b.drawer)&&decide (s.sum=0))&&decide (cB .or .i64 s.flags 1=1))&&decide (s.part=0))&&decide (s.day=b.day))&&decide (s.city=b.city)
 else if s.kind=1 then decide (s.who=b.drawee)&&(wi s.sum 1 1099511627776&&decide (s.flags=0))
 else if s.kind=2 then((wi s.to (-1) ((r.firms.length:Int)-1)&&decide (s.sum=0))&&wi s.flags 0 7)&&decide (cB .and .i64 s.flags 6≠6)
 else if s.kind=3 then(decide (s.sum=0)&&decide (s.flags=0))&&B [0,1,2,4]
 else if s.kind=4 then((wi s.sum 1 1099511627776&&decide (s.flags=0))&&decide (s.who≠b.drawee))&&B [0,2]
 else false
def FM (r:Realm)(b:Bill)(i:Nat)(s:Sign)(B:List Int→Bool):Bool:=
 if ¬(i=0↔s.kind=0)∨(¬s.kind=2∧¬s.to=-1) then false
 else if(¬s.kind=3∧¬s.kind=4)∧¬s.for_=-1 then false
 else K5 r b s B
def tY (r:Realm)(f:File)(i:Nat):Bool:=FM r f.bill i (f.signs.getD i default) (Eg f i)
theorem anj (r:Realm)(hr:Small r)(f:File)(i:Nat)(h:i<f.signs.length)(hl:f.signs.length≤100000):ak T 107 [bq r,cd f,.int i] (.bool (tY r f i)):=by
 refine .of_tree rfl (lA 43 (by kernel_rfl)) aqh ?_;have jX:=hr.firms;have hw:IntKind.i64.wrap ((r.firms.length:Int)-1)=(r.firms.length:Int)-1:=bE (by omega);have hs:f.signs.getD i default=f.signs[i]:=by simp[h]
 have Lq:=fun ks hk=>anh f i ks ⟨by omega,by omega⟩ hl hk;unfold tY;rw[hs];generalize hB:Eg f i=B at Lq ⊢;generalize hX:FM r f.bill i f.signs[i] B=X;simp[Q3,h];generalize f.signs[i]=s at*;unfold FM at hX;by_cases h1:¬(i=0↔s.kind=0)∨(¬s.kind=2∧¬s.to=-1)
 ·rw[if_pos h1] at hX ⊢;exact hX.symm
 rw[if_neg h1] at hX ⊢;by_cases h2:(¬s.kind=3∧¬s.kind=4)∧¬s.for_=-1
 ·rw[if_pos h2] at hX ⊢;exact hX.symm
 rw[if_neg h2] at hX ⊢;refine⟨_,dU _ _ _,?_⟩;unfold K5 at hX;by_cases k0:s.kind=0
 ·rw[if_pos k0] at hX ⊢;rw[←hX];by_cases a:(((s.who=f.bill.drawer∧s.sum=0)∧cB BinOp.or IntKind.i64 s.flags 1=1)∧s.part=0)∧s.day=f.bill.day
  ·simp[a]
  ·rw[if_neg a]
   congr 1
   rw[eq_comm,SG];intro e;simp at e;exact a e.1
 rw[if_neg k0] at hX ⊢;by_cases k1:s.kind=1
 ·rw[if_pos k1] at hX ⊢;rw[←hX];by_cases a:s.who=f.bill.drawee<;>cases wi s.sum 1 1099511627776<;>simp[a]
 rw[if_neg k1] at hX ⊢;by_cases k2:s.kind=2
 ·rw[if_pos k2] at hX ⊢;rw[←hX,hw];refine⟨_,dU _ _ _,?_⟩;cases wi s.to (-1) ((r.firms.length:Int)-1)
  ·simp
  by_cases a:s.sum=0
  case neg=>simp[a]
  simp[a];refine⟨_,dU _ _ _,?_⟩;cases wi s.flags 0 7<;>simp
 rw[if_neg k2] at hX ⊢;by_cases k3:s.kind=3
 ·rw[if_pos k3] at hX ⊢;rw[←hX];by_cases a:s.sum=0∧s.flags=0
  case neg=>
   rw[if_neg a,if_neg a]
   congr 1
   rw[eq_comm,SG];intro e;simp at e;exact a e.1
  rw[if_pos a];refine⟨_,Lq [0,1,2,4] (by decide),?_⟩;simp[a]
 rw[if_neg k3] at hX ⊢;by_cases k4:s.kind=4
 ·rw[if_pos k4] at hX ⊢;rw[←hX];cases wi s.sum 1 1099511627776
  ·simp
  by_cases a:s.flags=0∧¬s.who=f.bill.drawee
  case neg=>
   simp[a]
  simp[a];exact Lq [0,2] (by decide)
 rw[if_neg k4] at hX ⊢;exact hX.symm
end Rm
namespace Rm
open Go Go.Proofs Cx
def qm (f:File)(i:Nat):Int:=if i=0 then f.bill.day else(f.signs.getD (i-1) default).day
def DJ (f:File)(i:Nat)(s:Sign):Bool:=(f.signs.take i).any fun x=>(decide (s.kind=1)&&decide (x.kind=1))&&decide (x.part=s.part)
def zh (r:Realm)(f:File)(i:Nat):Int:=
 let s:=f.signs.getD i default
 if wi s.part 0 (f.bill.parts-1)=false then 15
 else if aD s.who r.firms.length=false∨aD s.city r.cities.length=false then 1
 else if wi s.day (qm f i) 100000=false∨(i=0∧¬s.day=qm f i) then 13
 else if tY r f i=false then 14
 else if DJ f i s=true then 5 else 0
theorem Ze (r:Realm)(hr:Small r)(f:File)(hp:1≤f.bill.parts∧f.bill.parts≤4)(i:Nat)(h:i<f.signs.length)(hl:f.signs.length≤100000):ak T 64 [bq r,cd f,.int i] (.int (zh r f i)):=by
 refine .of_tree rfl (lA 41 (by kernel_rfl)) aqj ?_;have jX:=hr.firms;have hci:=hr.cities;have dh:IntKind.i64.wrap ((r.firms.length:Int)-1)=(r.firms.length:Int)-1:=bE (by omega);have eN:IntKind.i64.wrap ((r.cities.length:Int)-1)=(r.cities.length:Int)-1:=bE (by omega);have B0:IntKind.i64.wrap (f.bill.parts-1)=f.bill.parts-1:=bE (by omega);have hs:f.signs.getD i default=f.signs[i]:=by simp[h]
 generalize hX:zh r f i=X;unfold zh at hX;simp only[hs] at hX;simp[Q5,h,dh,eN,B0];refine⟨_,dU _ _ _,?_⟩;cases a1:wi f.signs[i].part 0 (f.bill.parts-1)
 ·simpa [a1] using hX
 simp[a1] at hX ⊢;refine⟨_,dU _ _ _,?_⟩;rw[yq] at hX;cases a2:wi f.signs[i].who 0 ((r.firms.length:Int)-1)
 ·simpa [a2] using hX
 simp[a2] at hX ⊢;refine⟨_,dU _ _ _,?_⟩;rw[yq] at hX;cases a3:wi f.signs[i].city 0 ((r.cities.length:Int)-1)
 ·simpa [a3] using hX
 simp[a3] at hX ⊢;refine⟨by omega,?_⟩;have uz:min i f.signs.length=i:=by omega
 refine aH.forRounds i (fun k=>[.int (qm f k),.bool ((f.signs.take k).any fun x=>(decide (f.signs[i].kind=1)&&decide (x.kind=1))&&decide (x.part=f.signs[i].part)),.int k]) (fun _=>[]) ?_ (fun k hk=>?_) ?_
 ·simp[qm]
 ·have hw:=bA hk (by omega);have bL:k<f.signs.length:=by omega
  have hf:qm f (k+1)=f.signs[k].day:=by simp[qm,bL]
  rw[fL bL,List.any_append];generalize ((f.signs.take k).any fun x=>(decide (f.signs[i].kind=1)&&decide (x.kind=1))&&decide (x.part=f.signs[i].part))=A;simp[aaj,Ip,hk,bL,h,hw,hf,uz];cases A
  ·by_cases e1:f.signs[i].kind=1<;>by_cases e2:f.signs[k].kind=1<;>simp[e1,e2]
  ·simp
 ·have ht:DJ f i f.signs[i]=true↔∃x,x∈List.take i f.signs∧(f.signs[i].kind=1∧x.kind=1)∧x.part=f.signs[i].part:=by simp[DJ]
  simp[aaj,Ip,uz,h];refine⟨_,dU _ _ _,?_⟩;by_cases a4:wi f.signs[i].day (qm f i) 100000=false∨(i=0∧¬f.signs[i].day=qm f i)
  ·rw[if_pos a4] at hX;rw[if_pos (by simpa using a4)];exact hX
  rw[if_neg a4] at hX;rw[if_neg (by simpa using a4)];refine⟨_,anj r hr f i h hl,?_⟩;cases a5:tY r f i
  ·simpa [a5] using hX
  simp[a5] at hX;simp only[adS,if_true];rw[←hX];by_cases a6:DJ f i f.signs[i]=true
  ·rw[if_pos a6,if_pos (ht.1 a6)]
  ·rw[if_neg a6,if_neg (fun x=>a6 (ht.2 x))]
def zL (a:Act)(to at_ own:Bool):Bool:=
 if a.kind=0∨a.kind=1∨a.kind=2 then(to&&decide (a.at_=-1))&&decide (a.sum=0)
 else if a.kind=3∨a.kind=4∨a.kind=5 then((to&&decide (a.at_=-1))&&wi a.sum 0 1099511627776)&&wi a.form 0 1
 else if a.kind=6 then(to&&own)&&wi a.sum 1 1099511627776
 else if a.kind=9 then(decide (a.to=-1)&&own)&&decide (a.sum=0)
 else(decide (a.to=-1)&&at_)&&decide (a.sum=0)
def zR (f:File)(a:Act):Bool:=aD a.at_ f.signs.length&&zj f a.at_ a.part
def Ot (f:File)(a:Act):Bool:=zR f a&&decide ((dV f a.at_).who=a.who)
def oc (r:Realm)(f:File)(a:Act):Bool:=
 if aD a.who r.firms.length=false∨(¬a.kind=4∧¬a.form=0) then false else zL a (aD a.to r.firms.length) (zR f a) (Ot f a)
theorem anf (r:Realm)(hr:Small r)(f:File)(a:Act)(hl:f.signs.length≤100000):ak T 108 [bq r,cd f,ib a] (.bool (oc r f a)):=by
 refine .of_tree rfl (lA 49 (by kernel_rfl)) aqd ?_;have jX:=hr.firms;have dh:IntKind.i64.wrap ((r.firms.length:Int)-1)=(r.firms.length:Int)-1:=bE (by omega);have eN:IntKind.i64.wrap ((f.signs.length:Int)-1)=(f.signs.length:Int)-1:=bE (by omega);generalize hX:oc r f a=X;unfold oc Ot zR at hX;simp[QX,dh,eN];refine⟨_,dU _ _ _,?_⟩;rw[←yq];have uH:=dU a.to 0 ((r.firms.length:Int)-1);have B2:=dU a.who 0 ((r.firms.length:Int)-1);rw[←yq] at uH B2;generalize aD a.to r.firms.length=tt at*;generalize aD a.who r.firms.length=ww at*;have fin:∀at_ own:Bool,(if ww=false∨(¬a.kind=4∧¬a.form=0) then false else zL a tt at_ own)=X→
  if ww=false∨(¬a.kind=4∧¬a.form=0) then X=false
  else if a.kind=0∨a.kind=1∨a.kind=2 then(if tt=true∧a.at_=-1 then D.bool (decide (a.sum=0)) else D.bool false)=D.bool X
  else if a.kind=3∨a.kind=5∨a.kind=4 then
        if tt=true∧a.at_=-1 then
         ∃d,ak (cH tab ext) 65 [D.int a.sum,D.int 0,D.int 1099511627776] d∧
          if(tt=true∧a.at_=-1)∧d.b=true then
             ∃Au,ak (cH tab ext) 65 [D.int a.form,D.int 0,D.int 1] Au∧(if(tt=true∧a.at_=-1)∧d.b=true then Au else D.bool false)=D.bool X
          else(if(tt=true∧a.at_=-1)∧d.b=true then D.none else D.bool false)=D.bool X
        else D.bool false=D.bool X
  else if a.kind=6 then
        if tt=true∧own=true then ∃Au,ak (cH tab ext) 65 [D.int a.sum,D.int 1,D.int 1099511627776] Au∧(if tt=true∧own=true then Au else D.bool false)=D.bool X
        else(if tt=true∧own=true then D.none else D.bool false)=D.bool X
  else if a.kind=9 then(if a.to=-1∧own=true then D.bool (decide (a.sum=0)) else D.bool false)=D.bool X
  else(if a.to=-1∧at_=true then D.bool (decide (a.sum=0)) else D.bool false)=D.bool X:=by
  intro at_ own hX;by_cases p:ww=false∨(¬a.kind=4∧¬a.form=0)
  ·rw[if_pos p] at hX ⊢;exact hX.symm
  rw[if_neg p] at hX ⊢;unfold zL at hX;by_cases k0:a.kind=0∨a.kind=1∨a.kind=2
  ·rw[if_pos k0] at hX ⊢;rw[←hX];by_cases e:tt=true∧a.at_=-1
   ·simp[e]
   ·rw[if_neg e];cases tt<;>simp at e ⊢;simp[e]
  rw[if_neg k0] at hX ⊢;by_cases k3:a.kind=3∨a.kind=4∨a.kind=5
  ·rw[if_pos k3] at hX;rw[if_pos (by omega),←hX];by_cases e:tt=true∧a.at_=-1
   ·rw[if_pos e];refine⟨_,dU _ _ _,?_⟩;cases wi a.sum 0 1099511627776
    ·simp
    ·simp[e];exact dU _ _ _
   ·rw[if_neg e];cases tt<;>simp at e ⊢;simp[e]
  rw[if_neg k3] at hX;rw[if_neg (by omega)];by_cases k6:a.kind=6
  ·rw[if_pos k6] at hX ⊢;rw[←hX];by_cases e:tt=true∧own=true
   ·rw[if_pos e];refine⟨_,dU _ _ _,?_⟩;simp[e]
   ·rw[if_neg e,if_neg e];cases tt<;>cases own<;>simp at e ⊢
  rw[if_neg k6] at hX ⊢;by_cases k9:a.kind=9
  ·rw[if_pos k9] at hX ⊢;rw[←hX];cases own<;>by_cases e:a.to=-1<;>simp[e]
  rw[if_neg k9] at hX ⊢;rw[←hX];cases at_<;>by_cases e:a.to=-1<;>simp[e]
 cases h1:aD a.at_ f.signs.length
 ·have hf:=fin false false (by simpa [h1] using hX);simp at hf ⊢;refine⟨_,uH,_,B2,?_⟩;simpa using hf
 have cN:0≤a.at_∧a.at_<f.signs.length:=by simpa [aD] using h1
 have h2:a.at_.toNat<f.signs.length:=by omega
 have hs:dV f a.at_=f.signs[a.at_.toNat]:=by simp[dV,h2]
 simp[cN];refine⟨_,Zf f _ _ (.inr cN),_,uH,_,B2,?_⟩;rw[h1,hs] at hX;have hf:=fin _ _ hX;cases h3:zj f a.at_ a.part
 ·rw[h3] at hf;simpa using hf
 ·rw[h3] at hf;simpa [h2] using hf
theorem Hd (a b:Int):(if a<b then b else a)=max a b:=by split<;>omega
theorem Ns (a b:Int):(if a<b then D.int b else D.int a)=D.int (max a b):=by
 rw[←Hd];split<;>rfl
def M8 (f:File)(i:Nat)(a:Act):Int:=
 let x:=if a.at_=-1 then f.bill.day else max f.bill.day (dV f a.at_).day
 if i=0 then x else max x (f.acts.getD (i-1) default).day
def pS (r:Realm)(f:File)(i:Nat):Int:=
 let a:=f.acts.getD i default
 if wi a.part 0 (f.bill.parts-1)=false then 15
 else if aD a.city r.cities.length=false∨wi a.kind 0 9=false then 1
 else if oc r f a=false then 14
 else if wi a.day (M8 f i a) 100000=false then 13 else 0
theorem Tg {r:Realm}{f:File}{a:Act}(h:oc r f a=true)(hn:¬a.at_=-1):0≤a.at_∧a.at_<f.signs.length:=by
 unfold oc at h;split at h
 ·cases h
 have key:zR f a=true→0≤a.at_∧a.at_<f.signs.length:=fun e=>by
  unfold zR at e;simp only[aq] at e;simpa [aD] using e.1
 unfold zL Ot at h
 repeat' split at h
 all_goals simp only[aq,decide_eq_true_eq] at h
 ·exact absurd h.1.2 hn
 ·exact absurd h.1.1.2 hn
 ·exact key h.1.2.1
 ·exact key h.1.2.1
 ·exact key h.1.2
theorem ang (r:Realm)(hr:Small r)(f:File)(hp:1≤f.bill.parts∧f.bill.parts≤4)(hl:f.signs.length≤100000)(uu:f.acts.length≤100000):ak T 66 [bq r,cd f] (.int (eL f.acts.length (pS r f))):=by
 refine .of_tree rfl (lA 48 (by kernel_rfl)) aqe ?_;have hci:=hr.cities;have eN:IntKind.i64.wrap ((r.cities.length:Int)-1)=(r.cities.length:Int)-1:=bE (by omega);have B0:IntKind.i64.wrap (f.bill.parts-1)=f.bill.parts-1:=bE (by omega);simp[QY];refine vG f.acts.length (pS r f) (fun k=>[.int 0,.int k]) (fun _=>[]) ?_ (fun k hk ho=>?_) (fun k hk ho hb=>?_) (fun hj=>?_)
 ·simp
 case' refine_2=>have hb:pS r f k=pS r f k:=rfl
 case' refine_3=>rw[hb]
 case refine_4=>simp[aah,Il,hj]
 all_goals
  have hw:=bA hk (by omega);have hs:f.acts.getD k default=f.acts[k]:=by simp[hk]
  clear hb;generalize hX:pS r f k=X at*;unfold pS at hX;simp only[hs] at hX;simp[aah,Il,hk,eN,B0,hw];refine⟨_,dU _ _ _,?_⟩;cases a1:wi f.acts[k].part 0 (f.bill.parts-1)
  ·simp[a1] at hX ⊢
   first|exact hX|(exfalso;omega)
  simp[a1] at hX ⊢;refine⟨_,dU _ _ _,?_⟩;rw[yq] at hX;cases a2:wi f.acts[k].city 0 ((r.cities.length:Int)-1)
  ·simp[a2] at hX ⊢
   first|exact hX|(exfalso;omega)
  simp[a2] at hX ⊢;refine⟨_,dU _ _ _,?_⟩;cases a3:wi f.acts[k].kind 0 9
  ·simp[a3] at hX ⊢
   first|exact hX|(exfalso;omega)
  simp[a3] at hX ⊢;refine⟨_,anf r hr f f.acts[k] hl,?_⟩;cases a4:oc r f f.acts[k]
  ·simp[a4] at hX ⊢
   first|exact hX|(exfalso;omega)
  simp[a4] at hX ⊢;unfold M8 at hX;by_cases k0:k=0
  ·subst k0;by_cases e1:f.acts[0].at_=-1
   ·simp[e1] at hX;simp[e1];refine⟨_,dU _ _ _,?_⟩;split at hX
    ·rename_i e;simp[e]
     first|exact hX|(exfalso;omega)
    ·rename_i e
     first|(exfalso;omega)|simp[e]
   ·obtain⟨h5,h6⟩:=Tg a4 e1;have h7:f.acts[0].at_.toNat<f.signs.length:=by omega
    have h8:dV f f.acts[0].at_=f.signs[f.acts[0].at_.toNat]:=by simp[dV,h7]
    simp[e1,h8] at hX;simp[e1,h5,h6,h7,Ns,Hd];refine⟨_,dU _ _ _,?_⟩;split at hX
    ·rename_i e;simp[e]
     first|exact hX|(exfalso;omega)
    ·rename_i e
     first|(exfalso;omega)|simp[e]
  ·have bP:IntKind.i64.wrap ((k:Int)-1)=(k:Int)-1:=bE (by omega);have cn:((k:Int)-1).toNat=k-1:=by omega
   have kq:k-1<f.acts.length:=by omega
   have ya:0<k:=by omega
   by_cases e1:f.acts[k].at_=-1
   ·simp[k0,e1,kq] at hX;simp[e1,ya,bP,cn,kq,Ns,Hd];refine⟨by omega,_,dU _ _ _,?_⟩;split at hX
    ·rename_i e;simp[e]
     first|exact hX|(exfalso;omega)
    ·rename_i e
     first|(exfalso;omega)|simp[e]
   ·obtain⟨h5,h6⟩:=Tg a4 e1;have h7:f.acts[k].at_.toNat<f.signs.length:=by omega
    have h8:dV f f.acts[k].at_=f.signs[f.acts[k].at_.toNat]:=by simp[dV,h7]
    simp[k0,e1,kq,h8] at hX;simp[e1,ya,bP,cn,kq,h5,h6,h7,Ns,Hd];refine⟨by omega,_,dU _ _ _,?_⟩;split at hX
    ·rename_i e;simp[e]
     first|exact hX|(exfalso;omega)
    ·rename_i e
     first|(exfalso;omega)|simp[e]
end Rm
namespace Rm
open Go Go.Proofs Cx
def mZ (a b:Int):Int:=if a<b then-1 else if b<a then 1 else 0
theorem Wx (a:Int):ak T 164 [.int a] (.bool false):=by
 refine .of_tree rfl (lA 52 (by kernel_rfl)) apP ?_;simp[QG]
theorem SJ (a b:Int):ak T 110 [.int a,.int b] (.int (mZ a b)):=by
 refine .of_tree rfl (lA 51 (by kernel_rfl)) apN ?_;simp[QE];refine⟨_,Wx a,_,Wx b,?_⟩;unfold mZ;by_cases h1:a<b
 ·simp[h1]
 by_cases h2:b<a<;>simp[h1,h2]
theorem abQ (l:List Int)(hl:l.length≤100000):ak T 109 [ints l] (.int (eL l.length fun k=>l.getD k 0)):=by
 refine .of_tree rfl (lA 53 (by kernel_rfl)) apO ?_;simp[QF];refine vG l.length (fun k=>l.getD k 0) (fun k=>[.int 0,.int k]) (fun _=>[]) ?_ (fun k hk ho=>?_) (fun k hk ho hb=>?_) (fun hj=>?_)
 ·simp
 ·have hw:=bA hk (by omega);have hx:l[k]=0:=by simpa [hk] using ho
  simp[Pb,CK,hk,hx,hw]
 ·have hx:¬l[k]=0:=by simpa [hk] using ho
  simp only[aI] at hb ⊢;rw[hb];simp[Pb,CK,hk,hx]
 ·simp only[aI] at hj ⊢;rw[hj];simp[Pb,CK]
theorem or2 (a b:Int):(eL 2 fun k=>[a,b].getD k 0)=if a=0 then b else a:=by
 have e:List.range 2=[0,1]:=rfl;unfold eL;rw[e];by_cases ha:a=0<;>by_cases hb:b=0<;>simp[ha,hb]
def wv (x y:Fact):Prop:=x.at_<y.at_∨(x.at_=y.at_∧x.kind<y.kind)
instance (x y:Fact):Decidable (wv x y):=by unfold wv;infer_instance
theorem ab6 (x y:Fact):0≤(if mZ x.at_ y.at_=0 then mZ x.kind y.kind else mZ x.at_ y.at_)↔¬wv x y:=by
 unfold mZ wv
 repeat' split
 all_goals omega
def tW (f:File)(i:Nat):Int:=
 let x:=f.facts.getD i default
 if wi x.kind 0 4=false then 1 else if aD x.at_ f.signs.length=false then 1 else if wi x.n 0 1=false then 1
 else if i=0 then 0 else if wv (f.facts.getD (i-1) default) x then 0 else 5
theorem ani (f:File)(hl:f.signs.length≤100000)(hlf:f.facts.length≤100000):ak T 67 [cd f] (.int (eL f.facts.length (tW f))):=by
 refine .of_tree rfl (lA 50 (by kernel_rfl)) aqg ?_;have eN:IntKind.i64.wrap ((f.signs.length:Int)-1)=(f.signs.length:Int)-1:=bE (by omega);simp[Q0];refine vG f.facts.length (tW f) (fun k=>[.int 0,.int k]) (fun _=>[]) ?_ (fun k hk ho=>?_) (fun k hk ho hb=>?_) (fun hj=>?_)
 ·simp
 case' refine_2=>have hb:tW f k=tW f k:=rfl
 case' refine_3=>rw[hb]
 case refine_4=>simp[aai,Io,hj]
 all_goals
  have hw:=bA hk (by omega);have hs:f.facts.getD k default=f.facts[k]:=by simp[hk]
  clear hb;generalize hX:tW f k=X at*;unfold tW at hX;simp only[hs] at hX;simp[aai,Io,hk,eN,hw];refine⟨_,dU _ _ _,?_⟩;cases a1:wi f.facts[k].kind 0 4
  ·simp[a1] at hX ⊢
   first|exact hX|(exfalso;omega)
  simp[a1] at hX ⊢;refine⟨_,dU _ _ _,?_⟩;rw[yq] at hX;cases a2:wi f.facts[k].at_ 0 ((f.signs.length:Int)-1)
  ·simp[a2] at hX ⊢
   first|exact hX|(exfalso;omega)
  simp[a2] at hX ⊢;refine⟨_,dU _ _ _,?_⟩;cases a3:wi f.facts[k].n 0 1
  ·simp[a3] at hX ⊢
   first|exact hX|(exfalso;omega)
  simp[a3] at hX ⊢;by_cases k0:k=0
  ·subst k0;simp at hX ⊢
   first|(exfalso;omega)|done
  ·have bP:IntKind.i64.wrap ((k:Int)-1)=(k:Int)-1:=bE (by omega);have cn:((k:Int)-1).toNat=k-1:=by omega
   have kq:k-1<f.facts.length:=by omega
   simp[k0,kq] at hX;simp[k0,bP,cn,kq];refine⟨by omega,_,SJ _ _,_,SJ _ _,?_⟩;have ho:=abQ [mZ f.facts[k-1].at_ f.facts[k].at_,mZ f.facts[k-1].kind f.facts[k].kind] (by simp);simp only[nV,wh] at ho;rw[or2] at ho;refine⟨_,ho,?_⟩;have ha:=ab6 f.facts[k-1] f.facts[k];generalize (if mZ f.facts[k-1].at_ f.facts[k].at_=0 then mZ f.facts[k-1].kind f.facts[k].kind else mZ f.facts[k-1].at_ f.facts[k].at_)=n at*;clear ho;by_cases e:wv f.facts[k-1] f.facts[k]
   ·have hn:¬0≤n:=fun h=>ha.1 h e;simp[e] at hX;simp[hn]
    first|done|(exfalso;omega)
   ·have hn:0≤n:=ha.2 e;simp[e] at hX;simp[hn]
    first|exact hX|(exfalso;omega)
def tw (f:File)(i:Nat):Int:=
 let x:=f.alters.getD i default
 if wi x.at_ ((if i=0 then 0 else(f.alters.getD (i-1) default).at_)+1) f.signs.length=false then 1 else if wi x.sum 1 1099511627776=false then 3 else 0
structure PaperOK (r:Realm) (f:File):Prop where
 full:(f.signs.length≤40∧f.alters.length≤4)∧f.acts.length≤100∧f.facts.length≤200
 bill:BillOK r f.bill
 ne:f.signs≠[]
 signs:eL f.signs.length (zh r f)=0
 alters:eL f.alters.length (tw f)=0
 acts:eL f.acts.length (pS r f)=0
 facts:eL f.facts.length (tW f)=0
theorem anc (r:Realm)(hs:Small r)(f:File)(ub:f.OK):∃d,ak T 16 [bq r,cd f] d∧mK (PaperOK r f) d:=by
 refine ak.ex_of_tree rfl acu aqb ?_;simp[QV];by_cases hf:(f.signs.length≤40∧f.alters.length≤4)∧f.acts.length≤100∧f.facts.length≤200
 case neg=>
  rw[if_pos (by omega)];exact .no (fun h=>hf h.full) (by decide)
 rw[if_neg (by omega)];obtain⟨d,hb,e,rfl,he⟩:=arN r hs f.bill;refine⟨_,hb,?_⟩;by_cases e0:e=0
 case neg=>
  simp[e0];exact .no (fun h=>e0 (he.2 h.bill)) e0
 have Gd:=he.1 e0;simp[e0];by_cases az:f.signs=[]
 ·simp[az];exact .no (fun h=>h.ne az) (by decide)
 simp[az];refine vG f.signs.length (zh r f) (fun k=>[.int 0,.int k]) (fun _=>[]) ?_ (fun k hk ho=>?_) (fun k hk ho hb=>?_) (fun hj=>?_)
 ·simp
 ·have hw:=bA hk (by omega);simp[Pg,CP,hk,hw];refine⟨_,Ze r hs f Gd.parts k hk (by omega),?_⟩;simp[ho]
 ·simp[Pg,CP,hk];refine⟨_,Ze r hs f Gd.parts k hk (by omega),?_⟩;simp[ho];exact .no (fun h=>ho (by rw[←hb];exact h.signs)) ho
 simp[Pg,CP];have jy:∀k,k<f.alters.length→(∀j,j<k→tw f j=0)→IntKind.i64.wrap ((if k=0 then 0 else(f.alters.getD (k-1) default).at_)+1)=(if k=0 then 0 else(f.alters.getD (k-1) default).at_)+1:=by
  intro k hk hj;refine bE ?_;by_cases k0:k=0
  ·rw[if_pos k0];omega
  ·rw[if_neg k0];have h1:=hj (k-1) (by omega);have bP:k-1<f.alters.length:=by omega
   have h2:=(ub.2.2.1.2 _ (cr bP)).1;have h3:f.alters.getD (k-1) default=f.alters[k-1]:=by simp[bP]
   unfold tw at h1;rw[h3] at h1 ⊢;simp only at h1;generalize (if k-1=0 then(0:Int) else(f.alters.getD (k-1-1) default).at_)=L0 at h1;split at h1
   ·cases h1
   ·rename_i hh;simp[wi] at hh;unfold aY at h2;omega
 refine aH.scan f.alters.length (fun k=>tw f k=0) (fun k=>[.int 0,.int (if k=0 then 0 else(f.alters.getD (k-1) default).at_),.int k]) (fun _=>[]) ?_ (fun k hk ur ho=>?_) (fun k hk ur ho=>?_) (fun Bs=>?_)
 ·simp
 ·have hw:=bA hk (by omega);have hl:=jy k hk ur;generalize hL:(if k=0 then 0 else(f.alters.getD (k-1) default).at_)=L at*;have hs:f.alters.getD k default=f.alters[k]:=by simp[hk]
  unfold tw at ho;simp only[hs,hL] at ho;simp[Ph,CQ,hk,hl];refine⟨_,dU _ _ _,?_⟩;cases a1:wi f.alters[k].at_ (L+1) f.signs.length
  ·simp[a1] at ho
  simp[a1] at ho ⊢;refine⟨_,dU _ _ _,?_⟩;simp[ho,hw]
 ·have hl:=jy k hk ur;have Bm:=K0 hk ur ho;generalize hL:(if k=0 then 0 else(f.alters.getD (k-1) default).at_)=L at*;have hs:f.alters.getD k default=f.alters[k]:=by simp[hk]
  have bad:∀e:Int,e≠0→mK (PaperOK r f) (.int e):=fun e h=>.no (fun h=>ho (by rw[←Bm];exact h.alters)) h;unfold tw at ho;simp only[hs,hL] at ho;simp[Ph,CQ,hk,hl];refine⟨_,dU _ _ _,?_⟩;cases a1:wi f.alters[k].at_ (L+1) f.signs.length
  ·simp;exact bad 1 (by decide)
  simp[a1] at ho ⊢;refine⟨_,dU _ _ _,?_⟩;simp[ho];exact bad 3 (by decide)
 have Bs:=K1 Bs;simp[Ph,CQ];refine⟨_,ang r hs f Gd.parts (by omega) (by omega),?_⟩;by_cases e3:eL f.acts.length (pS r f)=0
 case neg=>
  simp[e3];exact .no (fun h=>e3 h.acts) e3
 simp[e3];refine⟨_,ani f (by omega) (by omega),?_⟩;exact⟨_,rfl,fun h=>⟨hf,Gd,az,hj,Bs,e3,h⟩,fun h=>h.facts⟩
end Rm
namespace Rm
open Go Go.Proofs Cx
structure SignOK (r:Realm) (f:File) (i:Nat) (s:Sign):Prop where
 part:0≤s.part∧s.part≤f.bill.parts-1
 who:0≤s.who∧s.who<r.firms.length
 city:0≤s.city∧s.city<r.cities.length
 day:qm f i≤s.day∧s.day≤100000
 fits:tY r f i=true
 once:DJ f i s=false
theorem PaperOK.sign {r:Realm}{f:File}(h:PaperOK r f)(i:Nat)(hi:i<f.signs.length):SignOK r f i f.signs[i]:=by
 have h1:=FK h.signs i hi;have hs:f.signs.getD i default=f.signs[i]:=by simp[hi]
 unfold zh at h1;simp only[hs] at h1;split at h1
 ·cases h1
 rename_i a1;split at h1
 ·cases h1
 rename_i a2;split at h1
 ·cases h1
 rename_i a3;split at h1
 ·cases h1
 rename_i a4;split at h1
 ·cases h1
 rename_i a5;simp[wi,aD] at a1 a2 a3;exact⟨⟨by omega,by omega⟩,⟨by omega,by omega⟩,⟨by omega,by omega⟩,⟨by omega,by omega⟩,by simpa using a4,by simpa using a5⟩
structure zu (r:Realm) (f:File) (i:Nat) (a:Act):Prop where
 part:0≤a.part∧a.part≤f.bill.parts-1
 city:0≤a.city∧a.city<r.cities.length
 kind:0≤a.kind∧a.kind≤9
 fits:oc r f a=true
 day:M8 f i a≤a.day∧a.day≤100000
theorem PaperOK.act {r:Realm}{f:File}(h:PaperOK r f)(i:Nat)(hi:i<f.acts.length):zu r f i f.acts[i]:=by
 have h1:=FK h.acts i hi;have hs:f.acts.getD i default=f.acts[i]:=by simp[hi]
 unfold pS at h1;simp only[hs] at h1;split at h1
 ·cases h1
 rename_i a1;split at h1
 ·cases h1
 rename_i a2;split at h1
 ·cases h1
 rename_i a3;split at h1
 ·cases h1
 rename_i a4;simp[wi,aD] at a1 a2 a4;exact⟨⟨by omega,by omega⟩,⟨by omega,by omega⟩,⟨by omega,by omega⟩,by simpa using a3,by omega⟩
theorem aoV {r:Realm}{f:File}{i:Nat}(hi:i<f.signs.length)(h:tY r f i=true)(hk:f.signs[i].kind=1∨f.signs[i].kind=4):1≤f.signs[i].sum∧f.signs[i].sum≤1099511627776:=by
 have hs:f.signs.getD i default=f.signs[i]:=by simp[hi]
 unfold tY at h;rw[hs] at h;unfold FM at h;split at h
 ·cases h
 split at h
 ·cases h
 unfold K5 at h;rcases hk with hk|hk
 ·simp[hk,wi] at h;omega
 ·simp[hk,wi] at h;omega
theorem PaperOK.sums {r:Realm}{f:File}(h:PaperOK r f):SumsOK f:=by
 have hr:=h.bill.range;unfold y4 at hr;refine⟨by omega,by omega,fun a ha=>?_,fun s hs hk=>?_⟩
 ·obtain⟨i,hi,rfl⟩:=eZ ha;have h1:=FK h.alters i hi;have hs:f.alters.getD i default=f.alters[i]:=by simp[hi]
  unfold tw at h1;simp only[hs] at h1;generalize (if i=0 then(0:Int) else(f.alters.getD (i-1) default).at_)=L at h1;split at h1
  ·cases h1
  split at h1
  ·cases h1
  rename_i a1;simp[wi] at a1;omega
 ·obtain⟨i,hi,rfl⟩:=eZ hs;exact aoV hi (h.sign i hi).fits hk
end Rm
namespace Rm
open Go Go.Proofs Cx
structure ORun (r:Realm) (f:File):Prop where
 right:Right r
 rightD:RightD r
 few:FewS f
 realm:RealmOK r
 sums:SumsOK f
 who:∀s,s∈f.signs→0≤s.who∧s.who<r.firms.length
 acts:∀a,a∈f.acts→KE a=true→0≤a.sum∧a.sum≤1099511627776
end Rm
namespace Rm
open Go Go.Proofs Cx
end Rm
namespace Rm
open Go Go.Proofs Cx
end Rm
namespace Rm
open Go Go.Proofs Cx
end Rm
namespace Rm
open Go Go.Proofs Cx
theorem afg {r:Realm}{f:File}(h:ox r f=true)(hc:hZ r=0):FQ r f=true:=by simp[FQ,h,hc]
def abF (d:D):Prop:=∃b:Bool,d=.bool b
theorem ab0 {r:Realm}{f:File}{a:Act}(h:oc r f a=true)(hc:KE a=true):0≤a.sum∧a.sum≤1099511627776:=by
 unfold oc at h;split at h
 ·cases h
 have hk:a.kind=4∨a.kind=5:=by simpa [KE] using hc
 unfold zL at h;rw[if_neg (by omega),if_pos (by omega)] at h;simp[wi] at h;omega
theorem am4 {r:Realm}{f:File}(G:Good r f)(hc:hZ r=0)(hP:PaperOK r f):ORun r f:=by
 refine⟨G.right,G.rightD,G.few,aoc hc,hP.sums,fun s hs=>?_,fun a ha hk=>?_⟩
 ·obtain⟨i,hi,rfl⟩:=eZ hs;exact(hP.sign i hi).who
 ·obtain⟨i,hi,rfl⟩:=eZ ha;exact ab0 (hP.act i hi).fits hk
end Rm
namespace Rm
open Go Go.Proofs Cx
abbrev dW:=Int×List Int
def m6 (h:dW):D:=.agg [.int h.1,ints h.2]
def oD (l:List dW):D:=.list (l.map m6)
theorem gH (l:List dW):(oD l).l=l.map m6:=rfl
def AX (g:List Int)(k:Nat):Prop:=0≤g.getD k 0∧g.getD k 0<20∧(0<k→g.getD (k-1) 0<g.getD k 0)
def ld (g:List Int):Prop:=∀k,k<g.length→AX g k
def oB (h:dW):Prop:=0≤h.1∧h.1≤1099511627776∧ld h.2
def Rt (l:List dW):Prop:=l.length≤100∧∀k,k<l.length→oB (l.getD k default)
theorem aaE (ρ:Env)(g:List Int)(x:D)(hg:g.length≤maxLen)(F1:ρ.r 25=ints g)(A3:ρ.r 26=.int g.length)(h27:ρ.r 27=.int 0)(h4:ρ.o 4=.agg [x,ints g]){Q:Out→Prop}
 (ar:ld g→Q (.next (ρ.put [2,27,28] [ρ.r 2,.int g.length,.bool false] [] []))) (uj:¬ld g→Q (.ret (.bool false))):aH T (W4 tA) ρ Q:=by
 rw[Ci] at hg;refine aH.scan g.length (AX g) (fun k=>[ρ.r 2,.int k]) (fun _=>[]) ?_ (fun k hk hj ho=>?_) (fun k hk hj ho=>?_) (fun hj=>?_)
 ·simp[h27]
 ·simp[AX,hk] at ho;have dh:IntKind.i64.wrap ((k:Int)+1)=(k:Int)+1:=bE (by omega);by_cases l7:k=0
  ·subst l7;simp at ho;simp[CM,vB,F1,A3,h4,hk,dh];omega
  ·have bP:k-1<g.length:=by omega
   have hw:IntKind.i64.wrap ((k:Int)-1)=((k-1:Nat):Int):=by rw[bE (by omega)];omega
   simp[bP] at ho;simp[CM,vB,F1,A3,h4,hk,dh,hw,bP,l7];omega
 ·have hb:¬ld g:=fun h=>ho (h k hk);have dh:IntKind.i64.wrap ((k:Int)+1)=(k:Int)+1:=bE (by omega);simp[AX,hk] at ho;by_cases l7:k=0
  ·subst l7;simp at ho;simp[CM,vB,F1,A3,h4,hk,dh,uj hb];omega
  ·have bP:k-1<g.length:=by omega
   have hw:IntKind.i64.wrap ((k:Int)-1)=((k-1:Nat):Int):=by rw[bE (by omega)];omega
   simp[bP] at ho;simp[CM,vB,F1,A3,h4,hk,dh,hw,bP,l7,uj hb];omega
 ·have:=ar hj;simp[CM,vB,A3];exact this
theorem aot (ρ:Env)(l:List dW)(hl:l.length≤maxLen)(hg:∀h,h∈l→h.2.length≤maxLen)(gd:ρ.r 10=oD l)(lf:ρ.r 11=.int l.length)(A2:ρ.r 12=.int 0)(h2:ρ.r 2=.bool false){Q:Out→Prop}
 (ar:(∀k,k<l.length→oB (l.getD k default))→∀ρ',Q (.next ρ')) (uj:¬(∀k,k<l.length→oB (l.getD k default))→Q (.ret (.bool false))):aH T (W5 tA) ρ Q:=by
 rw[Ci] at hl;refine aH.scan l.length (fun k=>oB (l.getD k default)) (fun k=>[.bool false,.int k]) (fun _=>[]) ?_ (fun k hk hj ho=>?_) (fun k hk hj ho=>?_) (fun hj=>?_)
 ·simp[A2,h2]
 ·have hm:l[k].2.length≤maxLen:=hg _ (cr _);have dh:IntKind.i64.wrap ((k:Int)+1)=(k:Int)+1:=bE (by omega);simp[hk] at ho;generalize hh:l[k]=h at ho hm;have e:m6 l[k]=.agg [.int h.1,ints h.2]:=by rw[hh];rfl
  obtain⟨o1,o2,o3⟩:=ho;simp[Pe,CN,gd,lf,hk,e,gH,cw];rw[if_neg (by omega)];refine aaE _ h.2 (.int h.1) hm (by simp[e,hk,gd,gH,cw]) (by simp[e,hk,gd,gH,cw]) (by simp) (by simp[e,hk,gd,gH,cw]) (fun _=>?_) (fun hb=>absurd o3 hb);simp[dh]
 ·have hb:=uj fun hh=>ho (hh k hk);have hm:l[k].2.length≤maxLen:=hg _ (cr _);simp[hk] at ho;generalize hh:l[k]=h at ho hm;have e:m6 l[k]=.agg [.int h.1,ints h.2]:=by rw[hh];rfl
  simp[Pe,CN,gd,lf,hk,e,gH,cw,hb];intro o1 o2;have o3:¬ld h.2:=fun hh=>ho ⟨o1,by omega,hh⟩;exact aaE _ h.2 (.int h.1) hm (by simp[e,hk,gd,gH,cw]) (by simp[e,hk,gd,gH,cw]) (by simp) (by simp[e,hk,gd,gH,cw]) (fun hh=>absurd hh o3) (fun _=>by simpa using hb)
 ·simp[Pe,CN,lf];exact ar hj _
instance (l:List dW):Decidable (Rt l):=Classical.propDecidable _
theorem Ut (l:List dW)(hl:l.length≤maxLen)(hg:∀h,h∈l→h.2.length≤maxLen):ak T 20 [oD l] (.bool (decide (Rt l))):=by
 refine .of_tree rfl Tu apY ?_;simp[QM,gH];by_cases h1:l.length≤100
 ·rw[if_neg (by omega)];refine aot _ l hl hg (by simp) (by simp[gH]) (by simp) (by simp) (fun h ρ'=>?_) (fun h=>?_)
  ·have:Rt l:=⟨h1,h⟩
   simp[this]
  ·have:¬Rt l:=fun hh=>h hh.2;simp[this]
 ·rw[if_pos (by omega)];simp[Rt,h1]
end Rm
namespace Rm
open Go Go.Proofs Cx
def su (m:BitVec 32)(g:Int):BitVec 32:=if 0≤g∧g<20 then m|||(1#32<<<g.toNat) else m
def fQ (l:List Int):BitVec 32:=l.foldl su 0
def u32 (m:BitVec 32):D:=.v (.int .u32 m.toNat)
@[simp] theorem ayL (m:BitVec 32):(u32 m).i=m.toNat:=rfl
theorem wrap_u32 (m:BitVec 32):IntKind.u32.wrap (m.toNat:Int)=m.toNat:=by
 have:=m.isLt;simp only[IntKind.wrap,IntKind.signed,IntKind.bits];simp;omega
@[simp] theorem ofInt_u32 (m:BitVec 32):BitVec.ofInt 32 (m.toNat:Int)=m:=by
  apply BitVec.eq_of_toNat_eq;simp
theorem acf (a b:BitVec 32):cB .or .u32 a.toNat b.toNat=(a|||b).toNat:=by
 show IntKind.u32.wrap ((BitVec.ofInt 32 _|||BitVec.ofInt 32 _).toNat:Int)=_;rw[ofInt_u32,ofInt_u32,wrap_u32]
theorem acd (a b:BitVec 32):cB .andNot .u32 a.toNat b.toNat=(a&&& ~~~b).toNat:=by
 show IntKind.u32.wrap ((BitVec.ofInt 32 _&&& ~~~BitVec.ofInt 32 _).toNat:Int)=_;rw[ofInt_u32,ofInt_u32,wrap_u32]
theorem acg {g:Int}(h0:0≤g)(h1:g<20):cB .shl .u32 1 g=(1#32<<<g.toNat).toNat:=by
 obtain⟨n,rfl⟩:=mL h0;have hn:n<20:=by omega
 show IntKind.u32.wrap (1*2^(min (n:Int).toNat 32))=_;have hp:2^n<2^32:=Nat.pow_lt_pow_right (by omega) (by omega);have e:min (n:Int).toNat 32=n:=by simp;omega
 rw[e];have e2:(1#32<<<(n:Int).toNat).toNat=2^n:=by
  simp[BitVec.toNat_shiftLeft,Nat.shiftLeft_eq];simpa using hp
 rw[e2];have:=wrap_u32 (BitVec.ofNat 32 (2^n));simp only[BitVec.toNat_ofNat,S6 hp] at this;rw[←this];simp
theorem ace (m:BitVec 32){g:Int}(h0:0≤g)(h1:g<20):cB .or .u32 m.toNat (cB .shl .u32 1 g)=(m|||1#32<<<g.toNat).toNat:=by
 rw[acg h0 h1,acf]
theorem Uu (g:List Int)(hg:g.length≤maxLen):ak T 72 [ints g] (u32 (fQ g)):=by
 refine .of_tree rfl Tw ap1 ?_;simp[QO];rw[Ci] at hg;refine aH.forRounds g.length (fun k=>[u32 (fQ (g.take k)),.int k]) (fun _=>[]) ?_ (fun k hk=>?_) ?_
 ·simp;rfl
 ·have dh:IntKind.i64.wrap ((k:Int)+1)=(k:Int)+1:=bE (by omega);have hs:fQ (g.take (k+1))=su (fQ (g.take k)) g[k]:=by
   unfold fQ;rw[fL hk,wg];rfl
  rw[hs];generalize fQ (g.take k)=m;simp[Z8,Ib,hk,dh];by_cases h0:0≤g[k]
  ·by_cases h1:g[k]<20
   ·simp[h0,h1,su,ace m h0 h1];rfl
   ·simp[h0,h1,su]
  ·simp[h0,su]
 ·simp[Z8,Ib]
theorem aj0 {k n:Nat}(h1:k<n)(h2:n≤100):((min k n:Nat):Int)+1≤4294967296:=by omega
theorem afb (l:List dW)(hl:l.length≤100)(hg:∀h,h∈l→h.2.length≤maxLen):ak T 71 [oD l] (.list (l.map fun h=>u32 (fQ h.2))):=by
 refine .of_tree rfl Tx ap2 ?_;simp[QP];refine aH.forRounds l.length (fun k=>[.none,.int k]) (fun k=>[.list ((l.take k).map fun h=>u32 (fQ h.2))]) ?_ (fun k hk=>?_) ?_
 ·simp
 ·have dh:IntKind.i64.wrap ((k:Int)+1)=(k:Int)+1:=bE (by omega);have hm:l[k].2.length≤maxLen:=hg _ (cr _);generalize hh:l[k]=h at hm;have e:m6 l[k]=.agg [.int h.1,ints h.2]:=by rw[hh];rfl
  simp[Z9,Ic,hk,dh,gH,e,cw];refine⟨_,Uu _ hm,?_⟩;refine⟨aj0 hk hl,?_⟩;rw[fL (by simpa using hk)];simp[hh]
 ·simp[Z9,Ic,gH]
def jE (l:List dW)(f:BitVec 32):Int:=(l.map fun h=>if fQ h.2&&& ~~~f=0#32 then h.1 else 0).sum
theorem W2 {f:BitVec 32}:∀{l:List dW},(∀h,h∈l→0≤h.1∧h.1≤1099511627776)→0≤jE l f∧jE l f≤1099511627776*l.length
 |[],_=>by simp[jE]
 |h::l,hh=>by
  have ih:=W2 (f:=f) (l:=l) fun x hx=>hh x (dY _ hx);have h1:=hh h (ej ..);unfold jE at ih ⊢;simp only[fo,List.sum_cons,nV];split<;>omega
theorem aj4 (l:List dW)(h:dW)(f:BitVec 32):jE (l++[h]) f=jE l f+if fQ h.2&&& ~~~f=0#32 then h.1 else 0:=by
 simp[jE]
theorem afa (l:List dW)(f:BitVec 32)(hl:l.length≤100)(hb:∀h,h∈l→0≤h.1∧h.1≤1099511627776):ak T 70 [oD l,.list (l.map fun h=>u32 (fQ h.2)),u32 f] (.int (jE l f)):=by
 refine .of_tree rfl Tv ap0 ?_;simp[QN];refine aH.forRounds l.length (fun k=>[.int (jE (l.take k) f),.int k]) (fun _=>[]) ?_ (fun k hk=>?_) ?_
 ·simp[jE]
 ·have dh:IntKind.i64.wrap ((k:Int)+1)=(k:Int)+1:=bE (by omega);have hs:jE (l.take (k+1)) f=jE (l.take k) f+if fQ l[k].2&&& ~~~f=0#32 then l[k].1 else 0:=by
   rw[fL hk,aj4]
  have bd:=W2 (f:=f) (l:=l.take k) fun h hm=>hb h (List.mem_of_mem_take hm);have bl:(l.take k).length≤100:=by simp;omega
  have b1:=hb l[k] (cr _);rw[hs];generalize jE (l.take k) f=t at bd;generalize hh:l[k]=h at b1;have e:m6 l[k]=.agg [.int h.1,ints h.2]:=by rw[hh];rfl
  have e':m6 h=.agg [.int h.1,ints h.2]:=rfl;simp[Z7,Ia,hk,dh,gH,e',cw,hh];have hz:(((fQ h.2&&& ~~~f).toNat:Int)=0)↔fQ h.2&&& ~~~f=0#32:=by
   rw[BitVec.toNat_eq];simp
  rw[acd];by_cases hc:fQ h.2&&& ~~~f=0#32
  ·rw[if_pos (hz.2 hc),if_pos hc,bE (by omega)]
  ·rw[if_neg (fun h=>hc (hz.1 h)),if_neg hc];simp
 ·simp[Z7,Ia,gH]
def yw (l:List dW)(failed:List Int):Int:=if Rt l then jE l (fQ failed) else 0
theorem ld.mono {g:List Int}(h:ld g):∀(k:Nat),k<g.length→(k:Int)≤g.getD k 0
 |0,hk=>(h 0 hk).1
 |k+1,hk=>by
  have h1:=(h (k+1) hk).2.2 (by omega);have h2:=ld.mono h k (by omega);simp only[Nat.add_sub_cancel] at h1;omega
theorem ld.len {g:List Int}(h:ld g):g.length≤20:=by
 refine S4 fun af=>?_;have h1:=h.mono 20 af;have h2:=(h 20 af).2.1;omega
theorem ld.range {g:List Int}(h:ld g){x:Int}(hx:x∈g):0≤x∧x<20:=by
 obtain⟨k,hk⟩:=ri hx;have af:=(dX.1 hk).1;have:=h k af;unfold AX at this;rw[aI,hk] at this;exact⟨this.1,this.2.1⟩
theorem Rt.held {l:List dW}(h:Rt l){x:dW}(hx:x∈l):oB x:=by
 obtain⟨k,hk⟩:=ri hx;have af:=(dX.1 hk).1;have:=h.2 k af
 rwa [aI,hk] at this
theorem Rt.len {l:List dW}(h:Rt l){x:dW}(hx:x∈l):x.2.length≤20∧0≤x.1∧x.1≤1099511627776:=
 ⟨(h.held hx).2.2.len,(h.held hx).1,(h.held hx).2.1⟩
theorem ae8 (l:List dW)(failed:List Int)(hl:l.length≤maxLen)(hg:∀h,h∈l→h.2.length≤maxLen)(hf:failed.length≤maxLen):ak T 18 [oD l,ints failed] (.int (yw l failed)):=by
 refine .of_tree rfl Tt apV ?_;simp[QK];refine⟨_,Ut l hl hg,?_⟩;by_cases hr:Rt l
 ·simp[hr];refine⟨_,afb l hr.1 hg,_,Uu failed hf,?_⟩;have:=afa l (fQ failed) hr.1 (fun h hh=>(hr.len hh).2);simpa [yw,hr] using this
 ·simp[hr,yw]
theorem al9 (m:BitVec 32)(g:Int)(j:Nat):(su m g).getLsbD j=(m.getLsbD j||decide (g=j∧j<20)):=by
 unfold su;split
 ·rename_i h;obtain⟨n,rfl⟩:=mL h.1;have hn:n<20:=by omega
  simp only[BitVec.getLsbD_or]
  congr 1
  rw[BitVec.getLsbD_shiftLeft,vW];simp;omega
 ·rename_i h;have:¬(g=j∧j<20):=by omega
  simp[this]
theorem al8 (g:List Int):∀(m:BitVec 32) (j:Nat),(g.foldl su m).getLsbD j=(m.getLsbD j||decide ((j:Int)∈g∧j<20)):=by
 induction g with
 |nil=>intro m j;simp
 |cons x g ih=>
  intro m j;rw[DV,ih,al9,Bool.or_assoc]
  congr 1
  rw[vW];simp only[jh,decide_eq_true_eq,cG];constructor
  ·rintro(⟨h1,h2⟩|⟨h1,h2⟩)
   ·exact⟨.inl h1.symm,h2⟩
   ·exact⟨.inr h1,h2⟩
  ·rintro⟨h1|h1,h2⟩
   ·exact .inl ⟨h1.symm,h2⟩
   ·exact .inr ⟨h1,h2⟩
theorem Nl (g:List Int)(j:Nat):(fQ g).getLsbD j=decide ((j:Int)∈g∧j<20):=by
 unfold fQ;rw[al8];simp
theorem ao6 (m f:BitVec 32):m&&& ~~~f=0#32↔∀j,m.getLsbD j=true→f.getLsbD j=true:=by
 constructor
 ·intro h j hj;have h1:=congrArg (fun x=>x.getLsbD j) h;simp only[BitVec.getLsbD_and,BitVec.getLsbD_not,hj,vY,BitVec.getLsbD_zero] at h1;have af:j<32:=BitVec.lt_of_getLsbD hj;simpa [af] using h1
 ·intro h;apply BitVec.eq_of_getLsbD_eq;intro j hj;simp only[BitVec.getLsbD_and,BitVec.getLsbD_not,BitVec.getLsbD_zero,hj,decide_true,vY];cases hm:m.getLsbD j
  ·rfl
  ·rw[h j hm];rfl
def yx (h:dW)(failed:List Int):Prop:=∀x,x∈h.2→x∈failed
theorem W3 {h:dW}(hh:oB h)(failed:List Int):fQ h.2&&& ~~~(fQ failed)=0#32↔yx h failed:=by
 rw[ao6];constructor
 ·intro k x hx;obtain⟨h0,h1⟩:=hh.2.2.range hx;obtain⟨n,rfl⟩:=mL h0;have:=k n (by rw[Nl];exact decide_eq_true ⟨hx,by omega⟩);rw[Nl,decide_eq_true_eq] at this;exact this.1
 ·intro k j hj;rw[Nl,decide_eq_true_eq] at hj ⊢;exact⟨k _ hj.1,hj.2⟩
instance (h:dW) (failed:List Int):Decidable (yx h failed):=Classical.propDecidable _
def G6 (l:List dW)(failed:List Int):Int:=(l.map fun h=>if yx h failed then h.1 else 0).sum
theorem aj3 {l:List dW}(hr:∀h,h∈l→oB h)(failed:List Int):jE l (fQ failed)=G6 l failed:=by
 unfold jE G6
 congr 1
 apply rj;intro h hh;by_cases hc:yx h failed
 ·rw[if_pos ((W3 (hr h hh) failed).2 hc),if_pos hc]
 ·rw[if_neg (fun e=>hc ((W3 (hr h hh) failed).1 e)),if_neg hc]
theorem aj5 {l:List dW}(hr:Rt l)(failed:List Int):yw l failed=G6 l failed:=by
 unfold yw;rw[if_pos hr,aj3 fun h hh=>hr.held hh]
end Rm
namespace Rm
open Go Go.Proofs Cx
def oT (r:Realm)(e:Effect):Bool:=decide (e.binds=1)&&(decide (e.kind=1)||e.recourse)&&aD e.firm r.firms.length
def ua (r:Realm)(e:Effect):Int:=(r.firms.getD e.firm.toNat default).group
def fA (r:Realm)(l:List Effect):List Int:=(l.filter (oT r)).map (ua r)
def vK (l:List Int):List Int:=iS (eO l)
def ez (r:Realm)(forum:Int)(f:File)(day:Int):dW:=(f.bill.sum,vK (fA r (p9 r forum f day)))
theorem P6 {l:List Int}{x:Int}:x∈vK l↔x∈l:=by
 unfold vK;rw[adV (GW l),ajI]
theorem aoN (l:List Int):(vK l).Pairwise (·<·):=adW (GW l)
theorem agD {l:List Int}(hs:l.Pairwise (·<·))(hr:∀x,x∈l→0≤x∧x<20):ld l:=by
 intro k hk;have hg:l.getD k 0=l[k]:=by simp[aI,hk]
 have:=hr _ (cr hk);refine⟨by rw[hg];exact this.1,by rw[hg];exact this.2,fun h0=>?_⟩;have bP:k-1<l.length:=by omega
 have l5:l.getD (k-1) 0=l[k-1]:=by simp[aI,bP]
 rw[hg,l5];exact abK.1 hs (k-1) k bP hk (by omega)
structure GrpOK (r:Realm):Prop where
 few:r.groups.length≤20
 grp:∀x,x∈r.firms→0≤x.group∧x.group<r.groups.length
theorem agC {r:Realm}(h:hZ r=0):GrpOK r:=by
 unfold hZ at h;rw[Dy] at h;refine⟨?_,fun x hx=>?_⟩
 ·have h1:=h (AZ r) (by simp);unfold AZ at h1;split at h1
  ·cases h1
  ·omega
 ·obtain⟨k,hk,rfl⟩:=eZ hx;have h1:=h (ju (ny r) 200 (ql r)) (by simp);unfold ju at h1;split at h1
  ·cases h1
  have h2:=FL.1 h1 k (by simpa [ny] using hk);have h3:=(K4 h2).2;simp[ql,aD,hk] at h3;omega
theorem UM {r:Realm}(h:GrpOK r){l:List Effect}{x:Int}(hx:x∈fA r l):0≤x∧x<r.groups.length:=by
 unfold fA at hx;rw[cX] at hx;obtain⟨e,he,rfl⟩:=hx;rw[fa] at he;have hb:=he.2;simp[oT,aD] at hb;have af:e.firm.toNat<r.firms.length:=by omega
 have:=h.grp _ (cr af);have e1:r.firms.getD e.firm.toNat default=r.firms[e.firm.toNat]:=by simp[af]
 unfold ua;rw[e1];exact this
theorem Vo {r:Realm}(h:GrpOK r)(forum:Int){f:File}(hs:0≤f.bill.sum∧f.bill.sum≤1099511627776)(day:Int):oB (ez r forum f day):=by
 refine⟨hs.1,hs.2,agD (aoN _) fun x hx=>?_⟩;have:=UM h (P6.1 hx);have:=h.few;omega
theorem aj6 {r:Realm}(hG:GrpOK r)(forum:Int){l:List File}(hl:l.length≤4)(hs:∀f,f∈l→0≤f.bill.sum∧f.bill.sum≤1099511627776)(day:Int){all:List Int}(ha:∀x:Int,0≤x→x<r.groups.length→x∈all):
 yw (l.map fun f=>ez r forum f day) all=(l.map fun f=>f.bill.sum).sum:=by
 have ar:∀f,f∈l→oB (ez r forum f day):=fun f hf=>Vo hG forum (hs f hf) day
 have r1:Rt (l.map fun f=>ez r forum f day):=⟨by simp;omega,fun k hk=>by
  rw[dM] at hk;have:(l.map fun f=>ez r forum f day).getD k default=ez r forum l[k] day:=by simp[hk]
  rw[this];exact ar _ (cr hk)⟩
 rw[aj5 r1];unfold G6;rw[wj]
 congr 1
 apply rj;intro f hf;show(if yx (ez r forum f day) all then(ez r forum f day).1 else 0)=f.bill.sum;have hp:yx (ez r forum f day) all:=fun x hx=>by have:=UM hG (P6.1 hx);exact ha x this.1 this.2
 rw[if_pos hp];rfl
end Rm
namespace Rm
open Go Go.Proofs Cx
abbrev ams:Nat:=68
abbrev amr:Nat:=69
theorem Wr (l:List Int):(l.map D.int).map D.i=l:=by rw[wj];exact List.map_id _
theorem ao0 (l:List Int)(h:l.length≤4294967296):ak T ams [.none,ints l] (.tup [.tup [],ints (eO l)]):=by
 refine .of_ext (g:=fun _ ds=>DC ds) rfl ⟨0,fun _ _=>?_⟩;show(if(l.map D.int).length≤4294967296 then some (D.tup [.tup [],ints (eO ((l.map D.int).map D.i))]) else none)=_;rw[Wr,if_pos (by simpa using h)]
theorem adG (l:List Int)(h:l.length≤4294967296):ak T amr [ints l] (ints (iS l)):=by
 refine .of_ext (g:=fun _ ds=>Fz ds) rfl ⟨0,fun _ _=>?_⟩;show(if(l.map D.int).length≤4294967296 then some (ints (iS ((l.map D.int).map D.i))) else none)=_;rw[Wr,if_pos (by simpa using h)]
@[simp] theorem ayt (a b x:D):cw [a,b] 1 [x]=[a,x]:=_root_.id rfl
theorem UO (r:Realm)(l:List Effect)(e:Effect):fA r (l++[e])=fA r l++if oT r e=true then[ua r e] else[]:=by
 unfold fA;rw[DU,ki]
 congr 1
 cases h:oT r e<;>simp[List.filter,h]
theorem UN (r:Realm)(l:List Effect):(fA r l).length≤l.length:=by
 unfold fA;rw[dM];exact nW _ _
theorem Ui (r:Realm)(forum:Int)(f:File)(day:Int):(p9 r forum f day).length≤f.signs.length:=by
 unfold p9;rw[dM,SW];exact(List.takeWhile_sublist _).length_le
theorem ae9 (r:Realm)(forum:Int)(fs:List File)(hf:∀f,f∈fs→Right r∧RightD r∧FewS f)(hl:fs.length≤1000)(day:Int):ak T 17 [bq r,.int forum,files fs,.int day] (oD (fs.map fun f=>ez r forum f day)):=by
 refine .of_tree rfl (lA 54 (by kernel_rfl)) apW ?_;simp[QL];refine aH.forRounds fs.length (fun k=>[.none,.int k]) (fun k=>[oD ((fs.take k).map fun f=>ez r forum f day)]) ?_ (fun k hk=>?_) ?_
 ·simp[oD]
 ·have hw:=bA hk (by omega);obtain⟨hR,hD,gJ⟩:=hf _ (cr hk);have hE:=SK r hR hD forum fs[k] day gJ;have fe:=Ui r forum fs[k] day;have qu:=gJ.signs;have hlen:((fs.take k).map fun f=>ez r forum f day).length=k:=by simp;omega
  have Bo:fs[k]?=some fs[k]:=aZ hk;rw[fL hk,ki,fo,List.map_nil];generalize (fs.take k).map (fun f=>ez r forum f day)=A at*;have hH:ez r forum fs[k] day=(fs[k].bill.sum,vK (fA r (p9 r forum fs[k] day))):=rfl;generalize ez r forum fs[k] day=H at*;simp[Z6,H9,hk,hw];generalize fs[k]=f at*;generalize p9 r forum f day=l at*;refine⟨_,hE,?_⟩;refine aH.forRounds l.length (fun k=>[.int k]) (fun k=>[.agg [.int f.bill.sum,kA (fA r (l.take k))],ints (fA r (l.take k))]) ?_ (fun j hj=>?_) ?_
  ·simp[fA,ints,Bo,kA]
  ·have eN:=bA hj (by omega);rw[fL hj,UO];have rN:=UN r (l.take j);rw[gp] at rN;generalize fA r (l.take j)=G at*;simp[Z5,H8,hj,eN];generalize l[j]=e at*;by_cases hb:oT r e=true
   ·have ec:=hb;simp[oT,aD] at ec;have af:e.firm.toNat<r.firms.length:=by omega
    have hg:ua r e=r.firms[e.firm.toNat].group:=by unfold ua;simp[af]
    rw[if_pos hb,hg];obtain⟨⟨b1,b2⟩,b3,b4⟩:=ec;simp[b1,b2,b3,b4,af];refine⟨by omega,?_⟩;simp[ints]
   ·rw[if_neg hb];have ec:=hb;have hn:¬(((e.binds=1∧(e.kind=1∨e.recourse=true))∧0≤e.firm)∧e.firm<r.firms.length):=fun h=>hb (by simp[oT,aD,h]);rw[if_neg hn];simp
  ·rw[D2];have rN:=UN r l;generalize fA r l=G at*;have hs:=ao0 G (by omega);have hc:=adG (eO G) (by rw[MM];omega);simp[Z5,H8];refine⟨_,hs,?_⟩;simp;refine⟨_,hc,?_⟩;simp;rw[gH,hH,dM,hlen];refine⟨by omega,?_⟩;simp[oD,m6,vK]
 ·simp[Z6,H9]
end Rm
set_option maxRecDepth 100000
namespace Rm
open Go Go.Proofs Cx
def MX:PC:=
 (.seq
  (.is [.setR 0 (.con (.bool false))])
  (.seq
   (.is [.call [] 11 45 [],
     .setR 1 (.r 11)])
   (.seq
    (.is [.setR 13 (.r 1),
      .call [] 14 46 [(.r 13),(.con (.int 3)),(.con (.int 1))],
      .setR 12 (.r 14),
      .setR 15 (.tget (.r 12) 0),
      .setR 16 (.tget (.r 12) 1),
      .setR 17 (.tget (.r 12) 2),
      .setR 2 (.r 15),
      .setR 3 (.r 16),
      .setR 4 (.r 17)])
    (.seq
     (.is [.setR 19 (.r 1),
       .call [] 20 46 [(.r 19),(.con (.int 3)),(.con (.int 2))],
       .setR 18 (.r 20),
       .setR 21 (.tget (.r 18) 0),
       .setR 22 (.tget (.r 18) 1),
       .setR 23 (.tget (.r 18) 2),
       .setR 5 (.r 21),
       .setR 6 (.r 22),
       .setR 7 (.r 23)])
     (.seq
      (.is [.setR 25 (.r 1),
        .call [] 26 46 [(.r 25),(.con (.int 3)),(.con (.int 3))],
        .setR 24 (.r 26),
        .setR 27 (.tget (.r 24) 0),
        .setR 28 (.tget (.r 24) 1),
        .setR 29 (.tget (.r 24) 2),
        .setR 8 (.r 27),
        .setR 9 (.r 28),
        .setR 10 (.r 29)])
      (.seq
       (.seq
        (.is [.setR 30 (.r 4),
          .setR 31 (.ci .neq (.r 30) (.con (.int 0))),
          .setR 32 (.r 31),
          .setR 33 (.r 7),
          .setR 34 (.ci .neq (.r 33) (.con (.int 0))),
          .setR 35 (.pick (.r 32) (.con (.bool true)) (.r 34)),
          .setR 36 (.r 35),
          .setR 37 (.r 10),
          .setR 38 (.ci .neq (.r 37) (.con (.int 0))),
          .setR 39 (.pick (.r 36) (.con (.bool true)) (.r 38)),
          .setR 40 (.r 39),
          .setR 41 (.r 2),
          .setR 42 (.ci .neq (.r 41) (.con (.int 300))),
          .setR 43 (.pick (.r 40) (.con (.bool true)) (.r 42)),
          .setR 44 (.r 43),
          .setR 45 (.r 5),
          .setR 46 (.ci .neq (.r 45) (.con (.int 800))),
          .setR 47 (.pick (.r 44) (.con (.bool true)) (.r 46)),
          .setR 48 (.r 47),
          .setR 49 (.r 8),
          .setR 50 (.ci .neq (.r 49) (.con (.int 1100))),
          .setR 51 (.pick (.r 48) (.con (.bool true)) (.r 50))])
        (.ite (.r 51) [0] []
         (.seq
          (.is [.setR 0 (.con (.bool false))])
          (.ret (.r 0)))
         .skip))
       (.seq
        (.seq
         (.is [.setR 52 (.r 3),
          .setO 53 (.lst [(.con (.int 1))]),
          .setR 53 (.con .none),
          .call [] 54 47 [(.r 52),(.o 53)],
          .setR 55 (.nt (.r 54)),
          .setR 56 (.r 55),
          .setR 57 (.r 6),
          .setR 58 (.lst [(.con (.int 0)),(.con (.int 1))]),
          .call [(56,false)] 59 47 [(.r 57),(.r 58)],
          .setR 60 (.nt (.r 59)),
          .setR 61 (.pick (.r 56) (.con (.bool true)) (.r 60)),
          .setR 62 (.r 61),
          .setR 63 (.r 9),
          .setR 64 (.lst [(.con (.int 0)),(.con (.int 1)),(.con (.int 2))]),
          .call [(62,false)] 65 47 [(.r 63),(.r 64)],
          .setR 66 (.nt (.r 65)),
          .setR 67 (.pick (.r 62) (.con (.bool true)) (.r 66)),
          .setR 68 (.r 67),
          .setR 69 (.r 1),
          .call [(68,false)] 70 20 [(.r 69)],
          .setR 71 (.nt (.r 70)),
          .setR 72 (.pick (.r 68) (.con (.bool true)) (.r 71))])
         (.ite (.r 72) [0] []
          (.seq
           (.is [.setR 0 (.con (.bool false))])
           (.ret (.r 0)))
          .skip))
        (.seq
         (.is [.setR 73 (.r 1),
          .setO 74 (.lst [(.con (.int 1))]),
          .setR 74 (.con .none),
          .call [] 75 18 [(.r 73),(.o 74)],
          .setR 76 (.ci .eql (.r 75) (.con (.int 300))),
          .setR 77 (.r 76),
          .setR 78 (.r 1),
          .setR 79 (.lst [(.con (.int 1)),(.con (.int 0))]),
          .call [(77,true)] 80 18 [(.r 78),(.r 79)],
          .setR 81 (.ci .eql (.r 80) (.con (.int 800))),
          .setR 82 (.pick (.r 77) (.r 81) (.con (.bool false))),
          .setR 83 (.r 82),
          .setR 84 (.r 1),
          .call [(83,true)] 85 18 [(.r 84),(.con (.list []))],
          .setR 86 (.ci .eql (.r 85) (.con (.int 0))),
          .setR 87 (.pick (.r 83) (.r 86) (.con (.bool false))),
          .setR 88 (.r 87),
          .setR 89 (.r 1),
          .call [(88,true)] 90 48 [(.r 89),(.con (.int 3))],
          .setR 91 (.lst [(.con (.int 0)),(.con (.int 300)),(.con (.int 100))]),
          .call [(88,true)] 92 47 [(.r 90),(.r 91)],
          .setR 93 (.pick (.r 88) (.r 92) (.con (.bool false))),
          .setR 94 (.r 93),
          .setR 95 (.r 1),
          .setR 96 (.lst [(.con (.int 0)),(.con (.int 300)),(.con (.int 50))]),
          .call [(94,true)] 97 49 [(.r 95),(.r 96)],
          .setR 98 (.lst [(.con (.int 2))]),
          .call [(94,true)] 99 47 [(.r 97),(.r 98)],
          .setR 100 (.pick (.r 94) (.r 99) (.con (.bool false))),
          .setR 0 (.r 100)])
         (.ret (.r 0))))))))))
theorem alD:wL=some MX:=by kernel_rfl
theorem alO:tab 12=some MX:=by rw[acs,←alD,←(av wL X9)]
def M0:PC:=
 (.seq
  (.is [.setR 0 (.con (.list []))])
  (.seq
   (.is [.setO 1 (.lst [(.con (.int 0)),(.con (.int 1))]),
     .setR 1 (.con .none),
     .setR 2 (.mk [(.con (.int 500)),(.o 1)]),
     .setO 3 (.lst [(.con (.int 1))]),
     .setR 3 (.con .none),
     .setR 4 (.mk [(.con (.int 300)),(.o 3)]),
     .setO 5 (.lst [(.con (.int 0)),(.con (.int 2))]),
     .setR 5 (.con .none),
     .setR 6 (.mk [(.con (.int 200)),(.o 5)]),
     .setO 7 (.lst [(.con (.int 2))]),
     .setR 7 (.con .none),
     .setR 8 (.mk [(.con (.int 100)),(.o 7)]),
     .setO 9 (.lst [(.r 2),(.r 4),(.r 6),(.r 8)]),
     .setR 9 (.con .none),
     .setR 0 (.o 9)])
   (.ret (.r 0))))
theorem alG:wK=some M0:=by kernel_rfl
theorem alS:tab 45=some M0:=by rw[acr,←alG,←(av wK X8)]
def acO:PC:=
 (.seq
  (.is [.setR 53 (.ci .lss (.r 52) (.r 51))])
  (.seq
   (.ite (.r 53) [] []
    .skip
    (.exit 2))
   (.seq
    (.block 3 [12,54,55,56,57,58] [11]
     (.seq
      (.is [.setR 54 (.r 52),
        .setR 12 (.r 54)])
      (.is [.setR 55 (.r 11),
        .setR 56 (.r 12),
        .setR 57 (.r 12),
        .chk (.idx (.o 11) (.r 56)),
        .setR 58 (.r 56),
        .setO 11 (.setn (.o 11) (.r 58) 0 (.r 57))])))
    (.is [.setR 59 (.ai .add .i64 (.r 52) (.con (.int 1))),
      .setR 52 (.r 59)]))))
def aj9:PC:=.block 2 [52,53] [11] (.loop [52] [11] acO)
def acP:PC:=
 (.seq
  (.seq
   (.is [.setR 73 (.r 14),
     .setR 74 (.ci .geq (.r 73) (.con (.int 0))),
     .setR 75 (.r 74),
     .setR 76 (.r 11),
     .setR 77 (.r 14),
     .chk (.imp [(75,true)] (.idx (.o 11) (.r 77))),
     .setR 78 (.r 77),
     .setR 79 (.nth (.o 11) (.r 78)),
     .setR 80 (.r 1),
     .setR 81 (.r 10),
     .setR 82 (.ai .sub .i64 (.r 80) (.r 81)),
     .setR 83 (.r 14),
     .setR 84 (.ai .add .i64 (.r 82) (.r 83)),
     .setR 85 (.ci .eql (.r 79) (.r 84)),
     .setR 86 (.pick (.r 75) (.r 85) (.con (.bool false)))])
   (.ite (.r 86) [] []
    .skip
    (.exit 6)))
  (.block 7 [14,87,88] []
   (.is [.setR 87 (.r 14),
     .setR 88 (.ai .sub .i64 (.r 87) (.con (.int 1))),
     .setR 14 (.r 88)])))
def aka:PC:=.block 6 [14,73,74,75,86] [] (.loop [14] [] acP)
def acQ:PC:=
 (.seq
  (.seq
   (.is [.setR 99 (.r 15),
     .setR 100 (.r 10),
     .setR 101 (.ci .lss (.r 99) (.r 100))])
   (.ite (.r 101) [] []
    .skip
    (.exit 8)))
  (.seq
   (.block 9 [104,105,106,107,108,109,110,111,112] [11]
    (.is [.setR 104 (.r 11),
      .setR 105 (.r 15),
      .setR 106 (.r 11),
      .setR 107 (.r 15),
      .setR 108 (.ai .sub .i64 (.r 107) (.con (.int 1))),
      .chk (.idx (.o 11) (.r 108)),
      .setR 109 (.r 108),
      .setR 110 (.nth (.o 11) (.r 109)),
      .setR 111 (.ai .add .i64 (.r 110) (.con (.int 1))),
      .chk (.idx (.o 11) (.r 105)),
      .setR 112 (.r 105),
      .setO 11 (.setn (.o 11) (.r 112) 0 (.r 111))]))
   (.is [.setR 102 (.r 15),
     .setR 103 (.ai .add .i64 (.r 102) (.con (.int 1))),
     .setR 15 (.r 103)])))
def akb:PC:=.block 8 [15,99,100,101] [11] (.loop [15] [11] acQ)
def acR:PC:=
 (.block 5 [6,7,13,14,15,60,61,62,63,64,65,66,67,71,72,73,74,75,86,89,90,91,92,93,94,95,96,97,98,99,100,101] [11]
  (.seq
   (.seq
    (.is [.setR 60 (.r 0),
      .setR 61 (.r 9),
      .setR 62 (.r 11),
      .call [] 63 72 [(.o 11)],
      .call [] 64 70 [(.r 60),(.r 61),(.r 63)],
      .setR 13 (.r 64)])
    (.seq
     (.is [.setR 65 (.r 13),
       .setR 66 (.r 6),
       .setR 67 (.ci .gtr (.r 65) (.r 66))])
     (.ite (.r 67) [6,7] []
      (.is [.setR 68 (.r 13),
        .setR 69 (.r 11),
        .call [] 70 100 [(.o 11)],
        .setO 70 (.r 70),
        .setR 70 (.con .none),
        .setR 6 (.r 68),
        .setR 7 (.o 70)])
      .skip)))
   (.seq
    (.is [.setR 71 (.r 10),
      .setR 72 (.ai .sub .i64 (.r 71) (.con (.int 1))),
      .setR 14 (.r 72)])
    (.seq
     aka
     (.seq
      (.seq
       (.is [.setR 89 (.r 14),
         .setR 90 (.ci .lss (.r 89) (.con (.int 0)))])
       (.ite (.r 90) [] []
        (.exit 4)
        .skip))
      (.seq
       (.is [.setR 91 (.r 11),
         .setR 92 (.r 14),
         .chk (.idx (.o 11) (.r 92)),
         .setR 93 (.r 92),
         .setR 94 (.nth (.o 11) (.r 93)),
         .setR 95 (.ai .add .i64 (.r 94) (.con (.int 1))),
         .chk (.idx (.o 11) (.r 92)),
         .setR 96 (.r 92),
         .setO 11 (.setn (.o 11) (.r 96) 0 (.r 95))])
       (.seq
        (.is [.setR 97 (.r 14),
          .setR 98 (.ai .add .i64 (.r 97) (.con (.int 1))),
          .setR 15 (.r 98)])
        akb)))))))
def akc:PC:=.block 4 [6,7,13,14,60,61,62,63,64,65,66,67,71,72,73,74,75,86,89,90] [11] (.loop [6,7] [11] acR)
def acS:PC:=
 (.seq
  (.seq
   (.is [.setR 43 (.r 10),
     .setR 44 (.r 2),
     .setR 45 (.ci .leq (.r 43) (.r 44))])
   (.ite (.r 45) [] []
    .skip
    (.exit 0)))
  (.seq
   (.block 1 [6,7,11,13,14,48,50,51,52,53,60,61,62,63,64,65,66,67,71,72,73,74,75,86,89,90] [11]
    (.seq
     (.is [.setR 48 (.r 10),
       .chk (.an (.ci .geq (.r 48) (.con (.int 0))) (.ci .leq (.r 48) (.con (.int 4294967296)))),
       .chk (.ci .eql (.r 48) (.r 48)),
       .setO 49 (.rep (.r 48) (.con (.int 0))),
       .setR 49 (.con .none),
       .setR 11 (.r 49),
       .setO 11 (.o 49)])
     (.seq
      (.seq
       (.is [.setR 50 (.r 11),
         .setR 51 (.llen (.o 11)),
         .setR 52 (.con (.int 0))])
       aj9)
      akc)))
   (.is [.setR 46 (.r 10),
     .setR 47 (.ai .add .i64 (.r 46) (.con (.int 1))),
     .setR 10 (.r 47)])))
def akd:PC:=.block 0 [6,7,10,43,44,45] [] (.loop [6,7,10] [] acS)
def M1:PC:=
 (.seq
  (.is [.setR 6 (.con (.int 0)),
    .setR 7 (.con (.list [])),
    .setR 8 (.con (.int 0))])
  (.seq
   (.seq
    (.is [.setR 16 (.r 0),
      .call [] 17 20 [(.r 16)],
      .setR 18 (.nt (.r 17)),
      .setR 19 (.r 18),
      .setR 20 (.r 1),
      .setR 21 (.ci .lss (.r 20) (.con (.int 0))),
      .setR 22 (.pick (.r 19) (.con (.bool true)) (.r 21)),
      .setR 23 (.r 22),
      .setR 24 (.r 1),
      .setR 25 (.ci .gtr (.r 24) (.con (.int 20))),
      .setR 26 (.pick (.r 23) (.con (.bool true)) (.r 25)),
      .setR 27 (.r 26),
      .setR 28 (.r 2),
      .setR 29 (.ci .lss (.r 28) (.con (.int 0))),
      .setR 30 (.pick (.r 27) (.con (.bool true)) (.r 29)),
      .setR 31 (.r 30),
      .setR 32 (.r 2),
      .setR 33 (.r 1),
      .setR 34 (.ci .gtr (.r 32) (.r 33)),
      .setR 35 (.pick (.r 31) (.con (.bool true)) (.r 34))])
    (.ite (.r 35) [6,7,8] []
     (.seq
      (.is [.setR 6 (.con (.int 0)),
        .setR 7 (.con (.list [])),
        .setR 8 (.con (.int 1))])
      (.ret (.tup [(.r 6),(.r 7),(.r 8)])))
     .skip))
   (.seq
    (.seq
     (.is [.setR 36 (.r 2),
       .setR 37 (.ci .gtr (.r 36) (.con (.int 6)))])
     (.ite (.r 37) [6,7,8] []
      (.seq
       (.is [.setR 6 (.con (.int 0)),
        .setR 7 (.con (.list [])),
        .setR 8 (.con (.int 6))])
       (.ret (.tup [(.r 6),(.r 7),(.r 8)])))
      .skip))
    (.seq
     (.is [.setR 38 (.r 0),
       .call [] 39 71 [(.r 38)],
       .setR 9 (.r 39)])
     (.seq
      (.is [.setR 40 (.r 0),
        .setR 41 (.r 9),
        .call [] 42 70 [(.r 40),(.r 41),(.con (.v (.int .u32 0)))],
        .setR 6 (.r 42)])
      (.seq
       (.seq
        (.is [.setR 10 (.con (.int 1))])
        akd)
       (.seq
        (.is [.setR 113 (.r 6),
          .setR 114 (.r 7),
          .setR 6 (.r 113),
          .setR 7 (.r 114),
          .setR 8 (.con (.int 0))])
        (.ret (.tup [(.r 6),(.r 7),(.r 8)])))))))))
theorem alH:tJ=some M1:=by kernel_rfl
theorem alT:tab 46=some M1:=by rw[acq,←alH,←(av tJ X7)]
def acT:PC:=
 (.seq
  (.seq
   (.is [.setR 11 (.r 5),
     .setR 12 (.r 0),
     .setR 13 (.llen (.r 12)),
     .setR 14 (.ci .lss (.r 11) (.r 13))])
   (.ite (.r 14) [] []
    .skip
    (.exit 0)))
  (.seq
   (.block 1 [4,17,18,19,20,21,22,23,24,25] []
    (.seq
     (.is [.setR 17 (.r 0),
       .setR 18 (.r 5),
       .chk (.idx (.r 17) (.r 18)),
       .setR 19 (.ref (.nth (.r 17) (.r 18))),
       .setR 20 (.deref (.r 19)),
       .setR 21 (.r 1),
       .setR 22 (.r 5),
       .chk (.idx (.r 21) (.r 22)),
       .setR 23 (.ref (.nth (.r 21) (.r 22))),
       .setR 24 (.deref (.r 23)),
       .setR 25 (.ci .neq (.r 20) (.r 24))])
     (.ite (.r 25) [4] []
      (.seq
       (.is [.setR 4 (.con (.bool false))])
       (.ret (.r 4)))
      .skip)))
   (.is [.setR 15 (.r 5),
     .setR 16 (.ai .add .i64 (.r 15) (.con (.int 1))),
     .setR 5 (.r 16)])))
def ake:PC:=.block 0 [4,5,11,12,13,14] [] (.loop [4,5] [] acT)
def M2:PC:=
 (.seq
  (.is [.setR 4 (.con (.bool false))])
  (.seq
   (.seq
    (.is [.setR 6 (.r 0),
      .setR 7 (.llen (.r 6)),
      .setR 8 (.r 1),
      .setR 9 (.llen (.r 8)),
      .setR 10 (.ci .neq (.r 7) (.r 9))])
    (.ite (.r 10) [4] []
     (.seq
      (.is [.setR 4 (.con (.bool false))])
      (.ret (.r 4)))
     .skip))
   (.seq
    (.seq
     (.is [.setR 5 (.con (.int 0))])
     ake)
    (.seq
     (.is [.setR 4 (.con (.bool true))])
     (.ret (.r 4))))))
theorem alI:tL=some M2:=by kernel_rfl
theorem alU:tab 47=some M2:=by rw[acv,←alI,←(av tL Yj)]
def acM:PC:=
 (.seq
  (.is [.setR 28 (.ci .lss (.r 27) (.r 26))])
  (.seq
   (.ite (.r 28) [] []
    .skip
    (.exit 2))
   (.seq
    (.block 3 [2,5,6,29,30,31,32,33,34,37,38,51] []
     (.seq
      (.is [.setR 29 (.r 27),
        .chk (.idx (.r 25) (.r 27)),
        .setR 30 (.ref (.nth (.r 25) (.r 27))),
        .setR 31 (.deref (.r 30)),
        .setR 5 (.r 29),
        .setR 6 (.r 31)])
      (.seq
       (.is [.setR 32 (.r 6),
         .setR 33 (.ci .lss (.r 32) (.con (.int 0))),
         .setR 34 (.r 33),
         .setR 35 (.r 6),
         .setR 36 (.ci .geq (.r 35) (.con (.int 20))),
         .setR 37 (.pick (.r 34) (.con (.bool true)) (.r 36)),
         .setR 38 (.r 37),
         .setR 39 (.r 5),
         .setR 40 (.ci .gtr (.r 39) (.con (.int 0))),
         .setR 41 (.r 40),
         .setR 42 (.r 6),
         .setR 43 (.con .none),
         .setR 44 (.cell (.o 4) 1),
         .setR 45 (.r 5),
         .setR 46 (.ai .sub .i64 (.r 45) (.con (.int 1))),
         .chk (.imp [(41,true),(38,false)] (.idx (.r 44) (.r 46))),
         .setR 47 (.ref (.nth (.r 44) (.r 46))),
         .setR 48 (.deref (.r 47)),
         .setR 49 (.ci .leq (.r 42) (.r 48)),
         .setR 50 (.pick (.r 41) (.r 49) (.con (.bool false))),
         .setR 51 (.pick (.r 38) (.con (.bool true)) (.r 50))])
       (.ite (.r 51) [2] []
        (.seq
         (.is [.setR 2 (.con (.bool false))])
         (.ret (.r 2)))
        .skip))))
    (.is [.setR 52 (.ai .add .i64 (.r 27) (.con (.int 1))),
      .setR 27 (.r 52)]))))
def aj7:PC:=.block 2 [2,27,28] [] (.loop [2,27] [] acM)
def acN:PC:=
 (.seq
  (.is [.setR 13 (.ci .lss (.r 12) (.r 11))])
  (.seq
   (.ite (.r 13) [] []
    .skip
    (.exit 0))
   (.seq
    (.block 1 [2,4,14,15,16,17,18,19,23,24,25,26,27,28] [4,8196]
     (.seq
      (.is [.chk (.idx (.r 10) (.r 12)),
        .setR 14 (.ref (.nth (.r 10) (.r 12))),
        .setR 15 (.deref (.r 14)),
        .setO 4 (.con (.agg [(.int 0),(.list [])])),
        .setR 4 (.con .none),
        .setO 8196 (.con (.list [])),
        .setO 4 (.setc (.o 4) 0 (.r 15))])
      (.seq
       (.seq
        (.is [.setR 16 (.con .none),
          .setR 17 (.cell (.o 4) 0),
          .setR 18 (.ci .lss (.r 17) (.con (.int 0))),
          .setR 19 (.r 18),
          .setR 20 (.con .none),
          .setR 21 (.cell (.o 4) 0),
          .setR 22 (.ci .gtr (.r 21) (.con (.int 1099511627776))),
          .setR 23 (.pick (.r 19) (.con (.bool true)) (.r 22))])
        (.ite (.r 23) [2] []
         (.seq
          (.is [.setR 2 (.con (.bool false))])
          (.ret (.r 2)))
         .skip))
       (.seq
        (.is [.setR 24 (.con .none),
          .setR 25 (.cell (.o 4) 1),
          .setR 26 (.llen (.r 25)),
          .setR 27 (.con (.int 0))])
        aj7))))
    (.is [.setR 53 (.ai .add .i64 (.r 12) (.con (.int 1))),
      .setR 12 (.r 53)]))))
def aj8:PC:=.block 0 [2,12,13] [] (.loop [2,12] [] acN)
def MZ:PC:=
 (.seq
  (.is [.setR 2 (.con (.bool false))])
  (.seq
   (.seq
    (.is [.setR 7 (.r 0),
      .setR 8 (.llen (.r 7)),
      .setR 9 (.ci .gtr (.r 8) (.con (.int 100)))])
    (.ite (.r 9) [2] []
     (.seq
      (.is [.setR 2 (.con (.bool false))])
      (.ret (.r 2)))
     .skip))
   (.seq
    (.seq
     (.is [.setR 10 (.r 0),
       .setR 11 (.llen (.r 10)),
       .setR 12 (.con (.int 0))])
     aj8)
    (.seq
     (.is [.setR 2 (.con (.bool true))])
     (.ret (.r 2))))))
theorem alF:p5=some MZ:=by kernel_rfl
theorem alR:tab 20=some MZ:=by rw[Tu,←alF,←(av p5 Cn)]
def MY:PC:=
 (.seq
  (.is [.setR 4 (.con (.int 0))])
  (.seq
   (.seq
    (.is [.setR 5 (.r 0),
      .call [] 6 20 [(.r 5)],
      .setR 7 (.nt (.r 6))])
    (.ite (.r 7) [4] []
     (.seq
      (.is [.setR 4 (.con (.int 0))])
      (.ret (.r 4)))
     .skip))
   (.seq
    (.is [.setR 8 (.r 0),
      .setR 9 (.r 0),
      .call [] 10 71 [(.r 9)],
      .setR 11 (.r 1),
      .call [] 12 72 [(.r 11)],
      .call [] 13 70 [(.r 8),(.r 10),(.r 12)],
      .setR 4 (.r 13)])
    (.ret (.r 4)))))
theorem alE:tH=some MY:=by kernel_rfl
theorem alP:tab 18=some MY:=by rw[Tt,←alE,←(av tH NH)]
def acU:PC:=
 (.seq
  (.is [.setR 25 (.ci .lss (.r 24) (.r 23))])
  (.seq
   (.ite (.r 25) [] []
    .skip
    (.exit 0))
   (.seq
    (.block 1 [7,26,27,28,29,30,31,32,33,34] [5]
     (.seq
      (.is [.setR 26 (.r 24),
        .setR 7 (.r 26)])
      (.is [.setR 27 (.r 5),
        .setR 28 (.r 7),
        .setR 29 (.r 0),
        .setR 30 (.r 6),
        .setR 31 (.r 7),
        .chk (.ci .geq (.r 31) (.con (.int 0))),
        .setR 32 (.ai .shl .u32 (.con (.v (.int .u32 1))) (.r 31)),
        .call [] 33 70 [(.r 29),(.r 30),(.r 32)],
        .chk (.idx (.o 5) (.r 28)),
        .setR 34 (.r 28),
        .setO 5 (.setn (.o 5) (.r 34) 0 (.r 33))])))
    (.is [.setR 35 (.ai .add .i64 (.r 24) (.con (.int 1))),
      .setR 24 (.r 35)]))))
def akf:PC:=.block 0 [24,25] [5] (.loop [24] [5] acU)
def M3:PC:=
 (.seq
  (.is [.setR 4 (.con (.list []))])
  (.seq
   (.seq
    (.is [.setR 8 (.r 0),
      .call [] 9 20 [(.r 8)],
      .setR 10 (.nt (.r 9)),
      .setR 11 (.r 10),
      .setR 12 (.r 1),
      .setR 13 (.ci .lss (.r 12) (.con (.int 0))),
      .setR 14 (.pick (.r 11) (.con (.bool true)) (.r 13)),
      .setR 15 (.r 14),
      .setR 16 (.r 1),
      .setR 17 (.ci .gtr (.r 16) (.con (.int 20))),
      .setR 18 (.pick (.r 15) (.con (.bool true)) (.r 17))])
    (.ite (.r 18) [4] []
     (.seq
      (.is [.setR 4 (.con (.list []))])
      (.ret (.r 4)))
     .skip))
   (.seq
    (.is [.setR 19 (.r 1),
      .chk (.an (.ci .geq (.r 19) (.con (.int 0))) (.ci .leq (.r 19) (.con (.int 4294967296)))),
      .chk (.ci .eql (.r 19) (.r 19)),
      .setO 20 (.rep (.r 19) (.con (.int 0))),
      .setR 20 (.con .none),
      .setR 5 (.r 20),
      .setO 5 (.o 20)])
    (.seq
     (.is [.setR 21 (.r 0),
       .call [] 22 71 [(.r 21)],
       .setR 6 (.r 22)])
     (.seq
      (.seq
       (.is [.setR 23 (.r 1),
        .setR 24 (.con (.int 0))])
       akf)
      (.seq
       (.is [.setR 36 (.r 5),
        .setR 4 (.o 5)])
       (.ret (.r 4))))))))
theorem alJ:tG=some M3:=by kernel_rfl
theorem alV:tab 48=some M3:=by rw[aco,←alJ,←(av tG X5)]
def acV:PC:=
 (.seq
  (.is [.setR 14 (.ci .lss (.r 13) (.r 12))])
  (.seq
   (.ite (.r 14) [] []
    .skip
    (.exit 0))
   (.seq
    (.block 1 [5,6,7,15,16,17,18,19,20,21,22,23] [5]
     (.seq
      (.is [.setR 15 (.r 13),
        .chk (.idx (.r 11) (.r 13)),
        .setR 16 (.ref (.nth (.r 11) (.r 13))),
        .setR 17 (.deref (.r 16)),
        .setR 6 (.r 15),
        .setR 7 (.r 17)])
      (.seq
       (.is [.setR 18 (.r 7),
         .setR 19 (.r 1),
         .setR 20 (.r 6),
         .chk (.idx (.r 19) (.r 20)),
         .setR 21 (.ref (.nth (.r 19) (.r 20))),
         .setR 22 (.deref (.r 21)),
         .setR 23 (.ci .gtr (.r 18) (.r 22))])
       (.ite (.r 23) [5] [5]
        (.is [.setR 24 (.r 5),
          .setR 25 (.r 6),
          .setO 26 (.lst [(.r 25)]),
          .setR 26 (.con .none),
          .chk (.ci .leq (.llen (.app (.o 5) (.o 26))) (.con (.int 4294967296))),
          .setO 5 (.app (.o 5) (.o 26)),
          .setR 27 (.con .none),
          .setR 5 (.r 27)])
        .skip))))
    (.is [.setR 28 (.ai .add .i64 (.r 13) (.con (.int 1))),
      .setR 13 (.r 28)]))))
def akg:PC:=.block 0 [5,13,14] [5] (.loop [5,13] [5] acV)
def M4:PC:=
 (.seq
  (.is [.setR 4 (.con (.list []))])
  (.seq
   (.is [.setO 5 (.con (.list [])),
     .setR 5 (.con .none)])
   (.seq
    (.seq
     (.is [.setR 8 (.r 0),
       .setR 9 (.r 1),
       .setR 10 (.llen (.r 9)),
       .call [] 11 48 [(.r 8),(.r 10)],
       .setR 12 (.llen (.r 11)),
       .setR 13 (.con (.int 0))])
     akg)
    (.seq
     (.is [.setR 29 (.r 5),
       .setR 4 (.o 5)])
     (.ret (.r 4))))))
theorem alK:tI=some M4:=by kernel_rfl
theorem alW:tab 49=some M4:=by rw[acp,←alK,←(av tI X6)]
def acY:PC:=
 (.seq
  (.is [.setR 9 (.ci .lss (.r 8) (.r 7))])
  (.seq
   (.ite (.r 9) [] []
    .skip
    (.exit 0))
   (.seq
    (.block 1 [3,5,10,11,12,13,14,17] []
     (.seq
      (.is [.chk (.idx (.r 6) (.r 8)),
        .setR 10 (.ref (.nth (.r 6) (.r 8))),
        .setR 11 (.deref (.r 10)),
        .setR 5 (.r 11)])
      (.seq
       (.is [.setR 12 (.r 5),
         .setR 13 (.ci .geq (.r 12) (.con (.int 0))),
         .setR 14 (.r 13),
         .setR 15 (.r 5),
         .setR 16 (.ci .lss (.r 15) (.con (.int 20))),
         .setR 17 (.pick (.r 14) (.r 16) (.con (.bool false)))])
       (.ite (.r 17) [3] []
        (.is [.setR 18 (.r 3),
          .setR 19 (.r 5),
          .chk (.ci .geq (.r 19) (.con (.int 0))),
          .setR 20 (.ai .shl .u32 (.con (.v (.int .u32 1))) (.r 19)),
          .setR 21 (.ai .or .u32 (.r 18) (.r 20)),
          .setR 3 (.r 21)])
        .skip))))
    (.is [.setR 22 (.ai .add .i64 (.r 8) (.con (.int 1))),
      .setR 8 (.r 22)]))))
def akj:PC:=.block 0 [3,8,9] [] (.loop [3,8] [] acY)
def M7:PC:=
 (.seq
  (.is [.setR 2 (.con (.v (.int .u32 0)))])
  (.seq
   (.is [.setR 3 (.con (.v (.int .u32 0)))])
   (.seq
    (.seq
     (.is [.setR 6 (.r 0),
       .setR 7 (.llen (.r 6)),
       .setR 8 (.con (.int 0))])
     akj)
    (.seq
     (.is [.setR 23 (.r 3),
       .setR 2 (.r 23)])
     (.ret (.r 2))))))
theorem alN:p7=some M7:=by kernel_rfl
theorem alZ:tab 72=some M7:=by rw[Tw,←alN,←(av p7 Hm)]
def acW:PC:=
 (.seq
  (.is [.setR 13 (.ci .lss (.r 12) (.r 11))])
  (.seq
   (.ite (.r 13) [] []
    .skip
    (.exit 0))
   (.seq
    (.block 1 [7,8,9,14,15,16,17,18,19,20,21,22,23] [9,8201]
     (.seq
      (.is [.setR 14 (.r 12),
        .chk (.idx (.r 10) (.r 12)),
        .setR 15 (.ref (.nth (.r 10) (.r 12))),
        .setR 16 (.deref (.r 15)),
        .setO 9 (.con (.agg [(.int 0),(.list [])])),
        .setR 9 (.con .none),
        .setO 8201 (.con (.list [])),
        .setR 8 (.r 14),
        .setO 9 (.setc (.o 9) 0 (.r 16))])
      (.seq
       (.is [.setR 17 (.r 1),
         .setR 18 (.r 8),
         .chk (.idx (.r 17) (.r 18)),
         .setR 19 (.ref (.nth (.r 17) (.r 18))),
         .setR 20 (.deref (.r 19)),
         .setR 21 (.r 2),
         .setR 22 (.ai .andNot .u32 (.r 20) (.r 21)),
         .setR 23 (.ci .eql (.r 22) (.con (.v (.int .u32 0))))])
       (.ite (.r 23) [7] []
        (.is [.setR 24 (.r 7),
          .setR 25 (.con .none),
          .setR 26 (.cell (.o 9) 0),
          .setR 27 (.ai .add .i64 (.r 24) (.r 26)),
          .setR 7 (.r 27)])
        .skip))))
    (.is [.setR 28 (.ai .add .i64 (.r 12) (.con (.int 1))),
      .setR 12 (.r 28)]))))
def akh:PC:=.block 0 [7,12,13] [] (.loop [7,12] [] acW)
def M5:PC:=
 (.seq
  (.is [.setR 6 (.con (.int 0))])
  (.seq
   (.is [.setR 7 (.con (.int 0))])
   (.seq
    (.seq
     (.is [.setR 10 (.r 0),
       .setR 11 (.llen (.r 10)),
       .setR 12 (.con (.int 0))])
     akh)
    (.seq
     (.is [.setR 29 (.r 7),
       .setR 6 (.r 29)])
     (.ret (.r 6))))))
theorem alL:p6=some M5:=by kernel_rfl
theorem alX:tab 70=some M5:=by rw[Tv,←alL,←(av p6 Hl)]
def acX:PC:=
 (.seq
  (.is [.setR 9 (.ci .lss (.r 8) (.r 7))])
  (.seq
   (.ite (.r 9) [] []
    .skip
    (.exit 0))
   (.seq
    (.block 1 [3,5,10,11,13,14,15,16,17] [5,8197,3,16]
     (.seq
      (.is [.chk (.idx (.r 6) (.r 8)),
        .setR 10 (.ref (.nth (.r 6) (.r 8))),
        .setR 11 (.deref (.r 10)),
        .setO 5 (.con (.agg [(.int 0),(.list [])])),
        .setR 5 (.con .none),
        .setO 8197 (.con (.list [])),
        .setO 5 (.setc (.o 5) 0 (.r 11))])
      (.is [.setR 12 (.r 3),
        .setR 13 (.con .none),
        .setR 14 (.cell (.o 5) 1),
        .call [] 15 72 [(.r 14)],
        .setO 16 (.lst [(.r 15)]),
        .setR 16 (.con .none),
        .chk (.ci .leq (.llen (.app (.o 3) (.o 16))) (.con (.int 4294967296))),
        .setO 3 (.app (.o 3) (.o 16)),
        .setR 17 (.con .none),
        .setR 3 (.r 17)])))
    (.is [.setR 18 (.ai .add .i64 (.r 8) (.con (.int 1))),
      .setR 8 (.r 18)]))))
def aki:PC:=.block 0 [3,8,9] [3] (.loop [3,8] [3] acX)
def M6:PC:=
 (.seq
  (.is [.setR 2 (.con (.list []))])
  (.seq
   (.is [.setO 3 (.con (.list [])),
     .setR 3 (.con .none)])
   (.seq
    (.seq
     (.is [.setR 6 (.r 0),
       .setR 7 (.llen (.r 6)),
       .setR 8 (.con (.int 0))])
     aki)
    (.seq
     (.is [.setR 19 (.r 3),
       .setR 2 (.o 3)])
     (.ret (.r 2))))))
theorem alM:p8=some M6:=by kernel_rfl
theorem alY:tab 71=some M6:=by rw[Tx,←alM,←(av p8 Hn)]
def Un:List (Nat×PC):=[(12,MX),(45,M0),(46,M1),(47,M2),(20,MZ),(18,MY),(48,M3),(49,M4),(72,M7),(70,M5),(71,M6)]
def KU:Nat→Option PC:=bu Un
theorem aeV:∀f pc,KU f=some pc→tab f=some pc∧ext f=none:=
 Cg (R:=fun f pc=>tab f=some pc∧ext f=none) (l:=Un) ⟨⟨alO,rfl⟩,⟨alS,rfl⟩,⟨alT,rfl⟩,⟨alU,rfl⟩,⟨alR,rfl⟩,⟨alP,rfl⟩,⟨alV,rfl⟩,⟨alW,rfl⟩,⟨alZ,rfl⟩,⟨alX,rfl⟩,⟨alY,rfl⟩,trivial⟩
def FE:Nat→Option (aJ→List D→Option D):=fun f=>bif Nat.beq f 100 then some (fun _ ds=>Fv ds) else none
theorem Uo:∀n,Le (cH KU FE n) (cH tab ext n)
 |0=>fun f ds d h=>by simp[cH] at h
 |n+1=>by
  have ih:=Uo n;intro f ds d h;unfold cH at h ⊢;cases hf:Nat.beq f 100 with
  |true=>
   obtain rfl:=cV hf;exact h
  |false=>
   have hx:FE f=none:=by unfold FE;rw[hf];rfl
   rw[hx] at h;dsimp only at h;split at h
   case h_2=>cases h
   rename_i pc hp;obtain⟨h1,h2⟩:=aeV f pc hp;rw[h2];dsimp only;rw[h1];dsimp only;split at h
   case h_2=>cases h
   rename_i d' he;rw[PC.ev_mono ih (aU _) he];exact h
theorem ak.of_ev (n:Nat){f:Nat}{ds:List D}{d:D}(h:cH KU FE n f ds=some d):ak T f ds d:=.of_at afc n (Uo n f ds d h)
theorem aoG:ak T 12 [] (.bool true):=ak.of_ev 60 (by kernel_rfl)
end Rm
namespace Rm
open Go Go.Proofs Cx
theorem ZR (f:File):∃b:Bool,ak T 15 [cd f] (.bool b):=by
 have h:∃d,ak T 15 [cd f] d∧abF d:=by
  refine ak.ex_of_tree rfl acw aqn ?_;simp[Q7];split
  ·exact⟨_,rfl⟩
  ·exact⟨_,rfl⟩
 obtain⟨d,hd,b,rfl⟩:=h;exact⟨b,hd⟩
end Rm
namespace Rm
open Go Go.Proofs Cx
def oU (r:Realm)(g:Int)(k:Nat):List Int:=((List.range k).filter fun i=>decide ((r.firms.getD i default).group=g)).map fun(i:Nat)=>(i:Int)
def qH (r:Realm)(g:Int):List Int:=oU r g r.firms.length
theorem ame (r:Realm)(g:Int)(k:Nat):oU r g (k+1)=oU r g k++if(r.firms.getD k default).group=g then[(k:Int)] else[]:=by
 unfold oU;rw[D1,DU,ki]
 congr 1
 by_cases h:(r.firms.getD k default).group=g
 ·rw[if_pos h,List.filter_cons_of_pos (by simpa using h)];rfl
 ·rw[if_neg h,List.filter_cons_of_neg (by simpa using h)];rfl
theorem Xt (r:Realm)(g:Int)(k:Nat):(oU r g k).length≤k:=by
 unfold oU;rw[dM];exact fW (nW _ _) (by simp)
theorem amh {r:Realm}{g x:Int}:x∈qH r g↔aD x r.firms.length=true∧(r.firms.getD x.toNat default).group=g:=by
 unfold qH oU;simp only[cX,fa,fp,decide_eq_true_eq,aD,aq];constructor
 ·rintro⟨i,⟨h1,h2⟩,rfl⟩;refine⟨by omega,?_⟩;simpa using h2
 ·rintro⟨h1,h2⟩;exact⟨x.toNat,⟨by omega,h2⟩,by omega⟩
theorem an7 (r:Realm)(g:Int)(hl:r.firms.length≤100000):ak T 22 [bq r,.int g] (ints (qH r g)):=by
 refine .of_tree rfl (lA 127 (by kernel_rfl)) aqx ?_;simp[Ri];refine aH.forRounds r.firms.length (fun k=>[.none,.int k]) (fun k=>[ints (oU r g k)]) ?_ (fun k hk=>?_) ?_
 ·simp[oU,ints]
 ·have hw:=bA hk (by omega);have hlen:=Xt r g k;have cn:(r.firms.getD k default).group=r.firms[k].group:=by simp[hk]
  rw[ame,cn];generalize oU r g k=A at*;simp[aak,Ir,hk,hw];by_cases h:r.firms[k].group=g
  ·simp[h];exact⟨by omega,by simp[ints]⟩
  ·simp[h]
 ·simp[aak,Ir,qH]
theorem ajX {r:Realm}{g:Int}{e:Effect}:(oT r e=true∧ua r e=g)↔e.binds=1∧e.firm∈qH r g∧(e.kind=1∨e.recourse=true):=by
 rw[amh];unfold oT ua;simp only[aq,jh,decide_eq_true_eq];constructor
 ·rintro⟨⟨⟨h1,h2⟩,h3⟩,h4⟩;exact⟨h1,⟨h3,h4⟩,h2⟩
 ·rintro⟨h1,⟨h3,h4⟩,h2⟩;exact⟨⟨⟨h1,h2⟩,h3⟩,h4⟩
theorem amg {r:Realm}{g:Int}{l:List Effect}{e:Effect}:g∈fA r (l++[e])↔g∈fA r l∨(e.binds=1∧e.firm∈qH r g∧(e.kind=1∨e.recourse=true)):=by
 rw[UO,cS,←ajX];by_cases h:oT r e=true
 ·simp[h,eq_comm]
 ·simp[h]
def KW (f:File):Bool:=Classical.choose (ZR f)
theorem Uw (f:File):ak T 15 [cd f] (.bool (KW f)):=Jr (ZR f)
open Classical in
def Ao (r:Realm)(f:File):Int:=if h:∃e:Int,ak T 16 [bq r,cd f] (.int e)∧(e=0→PaperOK r f) then Classical.choose h else 0
theorem KA (r:Realm)(hs:Small r)(f:File)(ub:f.OK):ak T 16 [bq r,cd f] (.int (Ao r f))∧(Ao r f=0→PaperOK r f):=by
 have h:∃e:Int,ak T 16 [bq r,cd f] (.int e)∧(e=0→PaperOK r f):=by
  obtain⟨d,hd,e,rfl,he⟩:=anc r hs f ub;exact⟨e,hd,he.1⟩
 unfold Ao;rw[dif_pos h];exact Jr h
def Zh (r:Realm)(f:File):Prop:=ox r f=true∧KW f=true∧Ao r f=0
def mD (fs:List File)(k:Nat):Int:=((fs.take k).map fun f=>f.bill.sum).sum
theorem aa4 (fs:List File){k:Nat}(hk:k<fs.length):mD fs (k+1)=mD fs k+fs[k].bill.sum:=by
 unfold mD;rw[fL hk,ki,List.sum_append];simp
theorem aa3 {fs:List File}(h:∀f,f∈fs→0≤f.bill.sum∧f.bill.sum≤1099511627776):∀k,k≤fs.length→0≤mD fs k∧mD fs k≤k*1099511627776
 |0,_=>by simp[mD]
 |k+1,hk=>by
  have:=aa3 h k (by omega);have h1:=h fs[k] (cr _);rw[aa4 fs hk];omega
theorem abx (r:Realm)(hr:r.OK)(forum:Int)(fs:List File)(uq:fs.length≤maxLen)(ub:∀y,y∈fs→File.OK y)(day:Int):ak T 5 [bq r,.int forum,files fs,.int day] (.bool true):=by
 refine .of_tree rfl (lA 126 (by kernel_rfl)) ap4 ?_;simp[QQ];refine⟨_,aoG,_,ZO r hr,?_⟩;cases e1:lY r
 ·simp
 have hs:Small r:=KX hr e1;simp;refine⟨_,PS r hs,?_⟩;by_cases e2:hZ r=0
 case neg=>simp[e2]
 by_cases e3:4<fs.length
 ·simp[e2,e3];intro h;omega
 simp[e2,e3];intro _;have Lg:=agC e2;refine aH.scan fs.length (fun k=>Zh r (fs.getD k default)) (fun k=>[.bool false,.int k]) (fun _=>[]) ?_ (fun k hk hj ar=>?_) (fun k hk hj uj=>?_) (fun hj=>?_)
 ·simp
 ·have hw:=bA hk (by omega);have hg:fs.getD k default=fs[k]:=by simp[hk]
  rw[hg] at ar;obtain⟨p1,p2,p3⟩:=ar;have q1:=ZV r fs[k] hr;have q2:=Uw fs[k];have q3:=(KA r hs fs[k] (ub _ (cr hk))).1;rw[p1] at q1;rw[p2] at q2;rw[p3] at q3;simp[Pf,CO,hk,hw];refine⟨_,q1,?_⟩;simp;refine⟨_,q2,?_⟩;simp;exact⟨_,q3⟩
 ·have hg:fs.getD k default=fs[k]:=by simp[hk]
  rw[hg] at uj;have q1:=ZV r fs[k] hr;have q2:=Uw fs[k];have q3:=(KA r hs fs[k] (ub _ (cr hk))).1;simp[Pf,CO,hk];refine⟨_,q1,?_⟩;cases p1:ox r fs[k]
  ·simp
  simp;refine⟨_,q2,?_⟩;cases p2:KW fs[k]
  ·simp
  simp;refine⟨_,q3,?_⟩;by_cases p3:Ao r fs[k]=0
  ·exact absurd ⟨p1,p2,p3⟩ uj
  ·simp[p3]
 have aP:∀f,f∈fs→Zh r f:=fun f hf=>by
  obtain⟨k,hk,rfl⟩:=eZ hf;have:=hj k hk
  rwa [show fs.getD k default=fs[k] by simp[hk]] at this
 have hO:∀f,f∈fs→ORun r f:=fun f hf=>by
  obtain⟨p1,p2,p3⟩:=aP f hf;have hg:=afg p1 e2;exact am4 (agv hr hg) e2 ((KA r hs f (ub f hf)).2 p3)
 have GP:∀f,f∈fs→0≤f.bill.sum∧f.bill.sum≤1099511627776:=fun f hf=>by have:=(hO f hf).sums.bill;omega
 have ahD:fs.length≤4:=by omega
 have k1:=ae9 r forum fs (fun f hf=>⟨(hO f hf).right,(hO f hf).rightD,(hO f hf).few⟩) (by omega) day;have uf:(fs.map fun f=>ez r forum f day).length=fs.length:=dM _;have ar:∀k (hk:k<fs.length),(fs.map fun f=>ez r forum f day).getD k default=ez r forum fs[k] day:=fun k hk=>by simp[hk]
 have L9:∀k (hk:k<fs.length),oB (ez r forum fs[k] day):=fun k hk=>Vo Lg forum (GP _ (cr hk)) day;have U7:Rt (fs.map fun f=>ez r forum f day):=⟨by omega,fun k hk=>by rw[uf] at hk;rw[ar k hk];exact L9 k hk⟩
 have rN:∀h,h∈(fs.map fun f=>ez r forum f day)→h.2.length≤maxLen:=fun h hh=>by
  rw[cX] at hh;obtain⟨f,hf,rfl⟩:=hh;obtain⟨k,hk,rfl⟩:=eZ hf;have:=(L9 k hk).2.2.len;rw[Ci];omega
 have k2:=Ut _ (by rw[uf];exact uq) rN;rw[decide_eq_true U7] at k2;have rH:((List.range r.groups.length).map fun(i:Nat)=>(i:Int)).length=r.groups.length:=by simp
 have hgr:=Lg.few;have k3:=ae8 _ ((List.range r.groups.length).map fun(i:Nat)=>(i:Int)) (by rw[uf];exact uq) rN (by rw[rH,Ci];omega);rw[aj6 Lg forum ahD GP day (fun x h0 h1=>cX.2 ⟨x.toNat,fp.2 (by omega),by omega⟩)] at k3;have hH:∀k (hk:k<fs.length),(fs.map fun f=>ez r forum f day)[k]?=some (ez r forum fs[k] day):=fun k hk=>by simp[hk]
 clear ar U7 rN;generalize (fs.map fun f=>ez r forum f day)=H at*;simp[Pf,CO];refine⟨_,k1,?_⟩;simp[gH,uf];refine⟨_,k2,?_⟩;simp;refine aH.forRounds r.groups.length (fun k=>[.none,.int k]) (fun k=>[ints ((List.range k).map fun(i:Nat)=>(i:Int))]) ?_ (fun k hk=>?_) ?_
 ·simp[ints]
 ·have hw:=bA hk (by omega);simp[aaa,Ie,hk,hw];rw[D1];exact⟨by omega,by simp[ints]⟩
 simp[aaa,Ie];refine aH.forRounds fs.length (fun k=>[.bool false,.int (mD fs k),.int k]) (fun _=>[]) ?_ (fun k hk=>?_) ?_
 ·simp[mD]
 ·have hw:=bA hk (by omega);have F7:=hO _ (cr hk);have hE:=SK r F7.right F7.rightD forum fs[k] day F7.few;have fe:=Ui r forum fs[k] day;have qu:=F7.few.signs;have Bo:fs[k]?=some fs[k]:=aZ hk;have F5:=hH k hk;have ahQ:=L9 k hk;have UX:ez r forum fs[k] day=(fs[k].bill.sum,vK (fA r (p9 r forum fs[k] day))):=rfl;have BV:=aa3 GP k (by omega);have aw3:=GP _ (cr hk);rw[aa4 fs hk];have eN:IntKind.i64.wrap (mD fs k+fs[k].bill.sum)=mD fs k+fs[k].bill.sum:=bE (by omega);generalize mD fs k=sm at*;generalize ez r forum fs[k] day=h at*;simp[aaf,Ij,hk,hw];generalize hfe:fs[k]=f at*;generalize p9 r forum f day=l at*;refine⟨_,hE,?_⟩
  have Lh:∀p:k<H.length,H[k]=h:=fun p=>by
   have:=F5;rw[aZ p] at this;exact zI this
  have jX:r.firms.length≤100000:=by have:=hs.firms;omega
  have LJ:=ahQ.2.2.len;refine aH.forRounds r.groups.length (fun g=>[.bool false,.int g]) (fun _=>[]) ?_ (fun g hg=>?_) ?_
  ·simp
  ·have B0:=bA hg (by omega);have hM:=an7 r g jX;have oF:(qH r g).length≤100000:=fW (Xt r g _) jX;have LH:((g:Int)∈h.2)↔((g:Int)∈fA r l):=by rw[UX];exact P6
   simp[aae,Ii,hg,B0];refine⟨_,hM,?_⟩;refine aH.forRounds l.length (fun j=>[.bool (decide ((g:Int)∈fA r (l.take j))),.int j]) (fun _=>[]) ?_ (fun j hj=>?_) ?_
   ·simp[fA]
   ·have B1:=bA hj (by omega);have e4:decide ((g:Int)∈fA r (l.take (j+1)))=(decide ((g:Int)∈fA r (l.take j))||decide (l[j].binds=1∧l[j].firm∈qH r g∧(l[j].kind=1∨l[j].recourse=true))):=by
     rw[←SF,decide_eq_decide,fL hj];exact amg
    rw[e4];generalize decide ((g:Int)∈fA r (l.take j))=bb at*;simp[aac,Ig,hj,B1];have hlj:l[j]?=some l[j]:=aZ hj;generalize qH r g=M at*;refine aH.forRounds M.length (fun m=>[.bool (bb||decide (l[j].binds=1∧l[j].firm∈M.take m∧(l[j].kind=1∨l[j].recourse=true))),.int m]) (fun _=>[]) ?_ (fun m hm=>?_) ?_
    ·simp
    ·have MD:=bA hm (by omega);have e5:decide (l[j].binds=1∧l[j].firm∈M.take (m+1)∧(l[j].kind=1∨l[j].recourse=true))=(decide (l[j].binds=1∧l[j].firm∈M.take m∧(l[j].kind=1∨l[j].recourse=true))||decide (l[j].binds=1∧l[j].firm=M[m]∧(l[j].kind=1∨l[j].recourse=true))):=by
         rw[←SF,decide_eq_decide,fL hm];simp only[cS,rk];constructor
         ·rintro⟨h1,h2|h2,h3⟩
          ·exact .inl ⟨h1,h2,h3⟩
          ·exact .inr ⟨h1,h2,h3⟩
         ·rintro(⟨h1,h2,h3⟩|⟨h1,h2,h3⟩)
          ·exact⟨h1,.inl h2,h3⟩
          ·exact⟨h1,.inr h2,h3⟩
     rw[e5];generalize decide (l[j].binds=1∧l[j].firm∈M.take m∧(l[j].kind=1∨l[j].recourse=true))=cc at*;simp[aab,If,hm,MD,hlj,hj];cases bb<;>cases cc<;>by_cases x1:l[j].binds=1<;>by_cases x2:l[j].firm=M[m]<;>by_cases x3:l[j].kind=1<;>simp[x1,x2,x3]
    ·rw[D2];simp[aab,If]
   ·rw[D2];simp[aac,Ig];refine aH.forRounds h.2.length (fun m=>[.bool (decide ((g:Int)∈h.2.take m)),.int m]) (fun _=>[]) ?_ (fun m hm=>?_) ?_
    ·simp
    ·have MD:=bA hm (by omega);have e5:decide ((g:Int)∈h.2.take (m+1))=(decide ((g:Int)∈h.2.take m)||decide (h.2[m]=(g:Int))):=by
       rw[←SF,decide_eq_decide,fL hm];simp only[cS,rk,eq_comm]
     rw[e5];generalize decide ((g:Int)∈h.2.take m)=cc at*;simp[aad,Ih,hm,MD,gH,F5,Lh,m6,uf,hk];cases cc<;>by_cases x1:h.2[m]=(g:Int)<;>simp[x1]
    ·rw[D2];simp[aad,Ih,gH,F5,Lh,m6,uf,hk];exact LH
  ·simp[aae,Ii,gH,F5,Lh,m6,uf,hk,Bo,hfe,eN];rw[UX]
 ·simp[aaf,Ij];refine⟨_,k3,?_⟩;simp[mD]
end Rm
