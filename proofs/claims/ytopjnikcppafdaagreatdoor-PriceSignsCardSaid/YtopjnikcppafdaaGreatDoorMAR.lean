/-
  Shared texts of this claim.
-/
import Derived.Test.YtopjnikcppafdaaGreatDoorMAQ
set_option linter.defProp false
set_option linter.unusedSimpArgs false
set_option linter.unusedVariables false
noncomputable section
open Go.IntKind (i64)
namespace Rm
open Go Go.Proofs Cx
def Dx (f:File)(i part:Int):Bool:=decide (i=0)||decide ((eK f i).part=part)
def ahz (f:File)(i part:Int)(h:i=0\/(0<=i/\i<f.signs.length)):ah T 142 [cf f,.int i,.int part] (.bool (Dx f i part)):=by
 refine zyw 147 ayN ?_;unfold Dx;by_cases h0:i=0
 .simp[OW,h0]
 .obtain⟨h1,h2⟩:=h.resolve_left h0;have h3:i.toNat<f.signs.length:=by omega
  simp[OW,h0,h1,h2,h3,eK]
def Jp (f:File)(i:Int)(kinds:List Int):Bool:=wi (eK f i).for_ 0 (i-1)&&(Dx f (eK f i).for_ (eK f i).part&&hasB kinds (eK f (eK f i).for_).kind)
def avk (f:File)(i:Int)(kinds:List Int)(h:0<=i/\i<f.signs.length)(hl:f.signs.length<=100000)(hk:kinds.length<=100):ah T 141 [cf f,.int i,ints kinds] (.bool (Jp f i kinds)):=by
 refine zyw 146 ayI ?_;have h1:i.toNat<f.signs.length:=by omega
 have hw:i64.wrap (i-1)=i-1:=aQ (by omega);have hs:eK f i=f.signs[i.toNat]:=by simp[eK,h1]
 unfold Jp;rw[hs];simp[X3,h,h1,hw];refine⟨_,fb _ _ _,?_⟩;cases hb:wi f.signs[i.toNat].for_ 0 (i-1)
 .simp
 .have bO:0<=f.signs[i.toNat].for_/\f.signs[i.toNat].for_<f.signs.length:=by
   simp[wi] at hb;omega
  have h2:f.signs[i.toNat].for_.toNat<f.signs.length:=by omega
  have dU:eK f f.signs[i.toNat].for_=f.signs[f.signs[i.toNat].for_.toNat]:=by simp[eK,h2]
  rw[dU];simp;refine⟨_,ahz f _ _ (.inr bO),?_⟩;cases cA:Dx f f.signs[i.toNat].for_ f.signs[i.toNat].part
  .simp
  simp[bO,h2];exact xF kinds _ (by omega)
def Ro (r:Realm)(b:Bill)(s:Sign)(B:List Int->Bool):Bool:=
 if s.kind=0 then((((decide (s.who=b.drawer)&&decide (s.sum=0))&&decide (bV .or .i64 s.flags 1=1))&&decide (s.part=0))&&decide (s.day=b.day))&&decide (s.city=b.city)
 else if s.kind=1 then decide (s.who=b.drawee)&&(wi s.sum 1 1099511627776&&decide (s.flags=0))
 else if s.kind=2 then((wi s.to (-1) ((r.firms.length:Int)-1)&&decide (s.sum=0))&&wi s.flags 0 7)&&decide (bV .and .i64 s.flags 6≠6)
 else if s.kind=3 then(decide (s.sum=0)&&decide (s.flags=0))&&B [0,1,2,4]
 else if s.kind=4 then((wi s.sum 1 1099511627776&&decide (s.flags=0))&&decide (s.who≠b.drawee))&&B [0,2]
 else false
def Lb (r:Realm)(b:Bill)(i:Nat)(s:Sign)(B:List Int->Bool):Bool:=
 if ¬(i=0↔s.kind=0)\/(¬s.kind=2/\¬s.to=-1) then false
 else if(¬s.kind=3/\¬s.kind=4)/\¬s.for_=-1 then false
 else Ro r b s B
def yw (r:Realm)(f:File)(i:Nat):Bool:=Lb r f.bill i (f.signs.getD i default) (Jp f i)
def avm (r:Realm)(hr:Small r)(f:File)(i:Nat)(h:i<f.signs.length)(hl:f.signs.length<=100000):ah T 98 [aP r,cf f,.int i] (.bool (yw r f i)):=by
 refine zyw 145 ayK ?_;have lD:=hr.firms;have hw:i64.wrap ((r.firms.length:Int)-1)=(r.firms.length:Int)-1:=aQ (by omega);have hs:f.signs.getD i default=f.signs[i]:=by simp[h]
 have RQ:=λks hk=>avk f i ks ⟨by omega,by omega⟩ hl hk;unfold yw;rw[hs];generalize hB:Jp f i=B at RQ ⊢;generalize hX:Lb r f.bill i f.signs[i] B=X;simp[X5,h];generalize f.signs[i]=s at*;unfold Lb at hX;by_cases h1:¬(i=0↔s.kind=0)\/(¬s.kind=2/\¬s.to=-1)
 .rw[if_pos h1] at hX ⊢;exact hX.symm
 rw[if_neg h1] at hX ⊢;by_cases h2:(¬s.kind=3/\¬s.kind=4)/\¬s.for_=-1
 .rw[if_pos h2] at hX ⊢;exact hX.symm
 rw[if_neg h2] at hX ⊢;refine⟨_,fb _ _ _,?_⟩;unfold Ro at hX;by_cases k0:s.kind=0
 .rw[if_pos k0] at hX ⊢;rw[<-hX];by_cases a:(((s.who=f.bill.drawer/\s.sum=0)/\bV BinOp.or IntKind.i64 s.flags 1=1)/\s.part=0)/\s.day=f.bill.day
  .simp[a]
  .rw[if_neg a]
   congr 1
   rw[eq_comm,aah];intro e;simp at e;exact a e.1
 rw[if_neg k0] at hX ⊢;by_cases k1:s.kind=1
 .rw[if_pos k1] at hX ⊢;rw[<-hX];by_cases a:s.who=f.bill.drawee<;>cases wi s.sum 1 1099511627776<;>simp[a]
 rw[if_neg k1] at hX ⊢;by_cases k2:s.kind=2
 .rw[if_pos k2] at hX ⊢;rw[<-hX,hw];refine⟨_,fb _ _ _,?_⟩;cases wi s.to (-1) ((r.firms.length:Int)-1)
  .simp
  by_cases a:s.sum=0
  case neg=>simp[a]
  simp[a];refine⟨_,fb _ _ _,?_⟩;cases wi s.flags 0 7<;>simp
 rw[if_neg k2] at hX ⊢;by_cases k3:s.kind=3
 .rw[if_pos k3] at hX ⊢;rw[<-hX];by_cases a:s.sum=0/\s.flags=0
  case neg=>
   rw[if_neg a,if_neg a]
   congr 1
   rw[eq_comm,aah];intro e;simp at e;exact a e.1
  rw[if_pos a];refine⟨_,RQ [0,1,2,4] (by decide),?_⟩;simp[a]
 rw[if_neg k3] at hX ⊢;by_cases k4:s.kind=4
 .rw[if_pos k4] at hX ⊢;rw[<-hX];cases wi s.sum 1 1099511627776
  .simp
  by_cases a:s.flags=0/\¬s.who=f.bill.drawee
  case neg=>
   simp[a]
  simp[a];exact RQ [0,2] (by decide)
 rw[if_neg k4] at hX ⊢;exact hX.symm
def ma (f:File)(i:Nat):Int:=if i=0 then f.bill.day else(f.signs.getD (i-1) default).day
def II (f:File)(i:Nat)(s:Sign):Bool:=(f.signs.take i).any λx=>(decide (s.kind=1)&&decide (x.kind=1))&&decide (x.part=s.part)
def Dv (r:Realm)(f:File)(i:Nat):Int:=
 let s:=f.signs.getD i default
 if wi s.part 0 (f.bill.parts-1)=false then 15
 else if aC s.who r.firms.length=false\/aC s.city r.cities.length=false then 1
 else if wi s.day (ma f i) 100000=false\/(i=0/\¬s.day=ma f i) then 13
 else if yw r f i=false then 14
 else if II f i s=true then 5 else 0
def ahy (r:Realm)(hr:Small r)(f:File)(hp:1<=f.bill.parts/\f.bill.parts<=4)(i:Nat)(h:i<f.signs.length)(hl:f.signs.length<=100000):ah T 58 [aP r,cf f,.int i] (.int (Dv r f i)):=by
 refine zyw 143 ayM ?_;have lD:=hr.firms;have RV:=hr.cities;have je:i64.wrap ((r.firms.length:Int)-1)=(r.firms.length:Int)-1:=aQ (by omega);have cZ:i64.wrap ((r.cities.length:Int)-1)=(r.cities.length:Int)-1:=aQ (by omega);have Tg:i64.wrap (f.bill.parts-1)=f.bill.parts-1:=aQ (by omega);have hs:f.signs.getD i default=f.signs[i]:=by simp[h]
 generalize hX:Dv r f i=X;unfold Dv at hX;simp only[hs] at hX;simp[X7,h,je,cZ,Tg];refine⟨_,fb _ _ _,?_⟩;cases a1:wi f.signs[i].part 0 (f.bill.parts-1)
 .simpa [a1] using hX
 simp[a1] at hX ⊢;refine⟨_,fb _ _ _,?_⟩;rw[oR] at hX;cases a2:wi f.signs[i].who 0 ((r.firms.length:Int)-1)
 .simpa [a2] using hX
 simp[a2] at hX ⊢;refine⟨_,fb _ _ _,?_⟩;rw[oR] at hX;cases a3:wi f.signs[i].city 0 ((r.cities.length:Int)-1)
 .simpa [a3] using hX
 simp[a3] at hX ⊢;refine⟨by omega,?_⟩;have yR:min i f.signs.length=i:=by omega
 refine aO.forRounds i (λk=>[.int (ma f k),.bool ((f.signs.take k).any λx=>(decide (f.signs[i].kind=1)&&decide (x.kind=1))&&decide (x.part=f.signs[i].part)),.int k]) (λ_=>[]) ?_ (λk hk=>?_) ?_
 .simp[ma]
 .have hw:=bx hk (by omega);have bf:k<f.signs.length:=by omega
  have hf:ma f (k+1)=f.signs[k].day:=by simp[ma,bf]
  rw[jn bf,List.any_append];generalize ((f.signs.take k).any λx=>(decide (f.signs[i].kind=1)&&decide (x.kind=1))&&decide (x.part=f.signs[i].part))=A;simp[aiC,NZ,hk,bf,h,hw,hf,yR];cases A
  .by_cases e1:f.signs[i].kind=1<;>by_cases e2:f.signs[k].kind=1<;>simp[e1,e2]
  .simp
 .have ht:II f i f.signs[i]=true↔∃x,x∈List.take i f.signs/\(f.signs[i].kind=1/\x.kind=1)/\x.part=f.signs[i].part:=by simp[II]
  simp[aiC,NZ,yR,h];refine⟨_,fb _ _ _,?_⟩;by_cases a4:wi f.signs[i].day (ma f i) 100000=false\/(i=0/\¬f.signs[i].day=ma f i)
  .rw[if_pos a4] at hX;rw[if_pos (by simpa using a4)];exact hX
  rw[if_neg a4] at hX;rw[if_neg (by simpa using a4)];refine⟨_,avm r hr f i h hl,?_⟩;cases a5:yw r f i
  .simpa [a5] using hX
  simp[a5] at hX;simp only[amv,if_true];rw[<-hX];by_cases a6:II f i f.signs[i]=true
  .rw[if_pos a6,if_pos (ht.1 a6)]
  .rw[if_neg a6,if_neg (λx=>a6 (ht.2 x))]
def Jg (a:Act)(to at_ own:Bool):Bool:=
 if a.kind=0\/a.kind=1\/a.kind=2 then(to&&decide (a.at_=-1))&&decide (a.sum=0)
 else if a.kind=3\/a.kind=4\/a.kind=5 then((to&&decide (a.at_=-1))&&wi a.sum 0 1099511627776)&&wi a.form 0 1
 else if a.kind=6 then(to&&own)&&wi a.sum 1 1099511627776
 else if a.kind=9 then(decide (a.to=-1)&&own)&&decide (a.sum=0)
 else(decide (a.to=-1)&&at_)&&decide (a.sum=0)
def D8 (f:File)(a:Act):Bool:=aC a.at_ f.signs.length&&Dx f a.at_ a.part
def U4 (f:File)(a:Act):Bool:=D8 f a&&decide ((eK f a.at_).who=a.who)
def vF (r:Realm)(f:File)(a:Act):Bool:=
 if aC a.who r.firms.length=false\/(¬a.kind=4/\¬a.form=0) then false else Jg a (aC a.to r.firms.length) (D8 f a) (U4 f a)
def avi (r:Realm)(hr:Small r)(f:File)(a:Act)(hl:f.signs.length<=100000):ah T 99 [aP r,cf f,jO a] (.bool (vF r f a)):=by
 refine zyw 149 ayG ?_;have lD:=hr.firms;have je:i64.wrap ((r.firms.length:Int)-1)=(r.firms.length:Int)-1:=aQ (by omega);have cZ:i64.wrap ((f.signs.length:Int)-1)=(f.signs.length:Int)-1:=aQ (by omega);generalize hX:vF r f a=X;unfold vF U4 D8 at hX;simp[X1,je,cZ];refine⟨_,fb _ _ _,?_⟩;rw[<-oR];have y4:=fb a.to 0 ((r.firms.length:Int)-1);have Gm:=fb a.who 0 ((r.firms.length:Int)-1);rw[<-oR] at y4 Gm;generalize aC a.to r.firms.length=tt at*;generalize aC a.who r.firms.length=ww at*;have fin:∀at_ own:Bool,(if ww=false\/(¬a.kind=4/\¬a.form=0) then false else Jg a tt at_ own)=X->
  if ww=false\/(¬a.kind=4/\¬a.form=0) then X=false
  else if a.kind=0\/a.kind=1\/a.kind=2 then(if tt=true/\a.at_=-1 then D.bool (decide (a.sum=0)) else D.bool false)=D.bool X
  else if a.kind=3\/a.kind=5\/a.kind=4 then
        if tt=true/\a.at_=-1 then
         ∃d,ah (eM tab ext) 59 [D.int a.sum,D.int 0,D.int 1099511627776] d/\
          if(tt=true/\a.at_=-1)/\d.b=true then
             ∃EI,ah (eM tab ext) 59 [D.int a.form,D.int 0,D.int 1] EI/\(if(tt=true/\a.at_=-1)/\d.b=true then EI else D.bool false)=D.bool X
          else(if(tt=true/\a.at_=-1)/\d.b=true then D.none else D.bool false)=D.bool X
        else D.bool false=D.bool X
  else if a.kind=6 then
        if tt=true/\own=true then ∃EI,ah (eM tab ext) 59 [D.int a.sum,D.int 1,D.int 1099511627776] EI/\(if tt=true/\own=true then EI else D.bool false)=D.bool X
        else(if tt=true/\own=true then D.none else D.bool false)=D.bool X
  else if a.kind=9 then(if a.to=-1/\own=true then D.bool (decide (a.sum=0)) else D.bool false)=D.bool X
  else(if a.to=-1/\at_=true then D.bool (decide (a.sum=0)) else D.bool false)=D.bool X:=by
  intro at_ own hX;by_cases p:ww=false\/(¬a.kind=4/\¬a.form=0)
  .rw[if_pos p] at hX ⊢;exact hX.symm
  rw[if_neg p] at hX ⊢;unfold Jg at hX;by_cases k0:a.kind=0\/a.kind=1\/a.kind=2
  .rw[if_pos k0] at hX ⊢;rw[<-hX];by_cases e:tt=true/\a.at_=-1
   .simp[e]
   .rw[if_neg e];cases tt<;>simp at e ⊢;simp[e]
  rw[if_neg k0] at hX ⊢;by_cases k3:a.kind=3\/a.kind=4\/a.kind=5
  .rw[if_pos k3] at hX;rw[if_pos (by omega),<-hX];by_cases e:tt=true/\a.at_=-1
   .rw[if_pos e];refine⟨_,fb _ _ _,?_⟩;cases wi a.sum 0 1099511627776
    .simp
    .simp[e];exact fb _ _ _
   .rw[if_neg e];cases tt<;>simp at e ⊢;simp[e]
  rw[if_neg k3] at hX;rw[if_neg (by omega)];by_cases k6:a.kind=6
  .rw[if_pos k6] at hX ⊢;rw[<-hX];by_cases e:tt=true/\own=true
   .rw[if_pos e];refine⟨_,fb _ _ _,?_⟩;simp[e]
   .rw[if_neg e,if_neg e];cases tt<;>cases own<;>simp at e ⊢
  rw[if_neg k6] at hX ⊢;by_cases k9:a.kind=9
  .rw[if_pos k9] at hX ⊢;rw[<-hX];cases own<;>by_cases e:a.to=-1<;>simp[e]
  rw[if_neg k9] at hX ⊢;rw[<-hX];cases at_<;>by_cases e:a.to=-1<;>simp[e]
 cases h1:aC a.at_ f.signs.length
 .have hf:=fin false false (by simpa [h1] using hX);simp at hf ⊢;refine⟨_,y4,_,Gm,?_⟩;simpa using hf
 have cw:0<=a.at_/\a.at_<f.signs.length:=by simpa [aC] using h1
 have h2:a.at_.toNat<f.signs.length:=by omega
 have hs:eK f a.at_=f.signs[a.at_.toNat]:=by simp[eK,h2]
 simp[cw];refine⟨_,ahz f _ _ (.inr cw),_,y4,_,Gm,?_⟩;rw[h1,hs] at hX;have hf:=fin _ _ hX;cases h3:Dx f a.at_ a.part
 .rw[h3] at hf;simpa using hf
 .rw[h3] at hf;simpa [h2] using hf
def MF (a b:Int):(if a<b then b else a)=max a b:=by split<;>omega
def TS (a b:Int):(if a<b then D.int b else D.int a)=D.int (max a b):=by
 rw[<-MF];split<;>rfl
def CB (f:File)(i:Nat)(a:Act):Int:=
 let x:=if a.at_=-1 then f.bill.day else max f.bill.day (eK f a.at_).day
 if i=0 then x else max x (f.acts.getD (i-1) default).day
def uw (r:Realm)(f:File)(i:Nat):Int:=
 let a:=f.acts.getD i default
 if wi a.part 0 (f.bill.parts-1)=false then 15
 else if aC a.city r.cities.length=false\/wi a.kind 0 9=false then 1
 else if vF r f a=false then 14
 else if wi a.day (CB f i a) 100000=false then 13 else 0
def aaS {r:Realm}{f:File}{a:Act}(h:vF r f a=true)(hn:¬a.at_=-1):0<=a.at_/\a.at_<f.signs.length:=by
 unfold vF at h;split at h
 .cases h
 have key:D8 f a=true->0<=a.at_/\a.at_<f.signs.length:=λe=>by
  unfold D8 at e;simp only[ao] at e;simpa [aC] using e.1
 unfold Jg U4 at h
 repeat' split at h
 all_goals simp only[ao,decide_eq_true_eq] at h
 .exact absurd h.1.2 hn
 .exact absurd h.1.1.2 hn
 .exact key h.1.2.1
 .exact key h.1.2.1
 .exact key h.1.2
def avj (r:Realm)(hr:Small r)(f:File)(hp:1<=f.bill.parts/\f.bill.parts<=4)(hl:f.signs.length<=100000)(yN:f.acts.length<=100000):ah T 60 [aP r,cf f] (.int (fU f.acts.length (uw r f))):=by
 refine zyw 148 ayH ?_;have RV:=hr.cities;have cZ:i64.wrap ((r.cities.length:Int)-1)=(r.cities.length:Int)-1:=aQ (by omega);have Tg:i64.wrap (f.bill.parts-1)=f.bill.parts-1:=aQ (by omega);simp[X2];refine qG f.acts.length (uw r f) (λk=>[.int 0,.int k]) (λ_=>[]) ?_ (λk hk ho=>?_) (λk hk ho hb=>?_) (λhj=>?_)
 .simp
 case' refine_2=>have hb:uw r f k=uw r f k:=rfl
 case' refine_3=>rw[hb]
 case refine_4=>simp[aiA,NX,hj]
 all_goals
  have hw:=bx hk (by omega);have hs:f.acts.getD k default=f.acts[k]:=by simp[hk]
  clear hb;generalize hX:uw r f k=X at*;unfold uw at hX;simp only[hs] at hX;simp[aiA,NX,hk,cZ,Tg,hw];refine⟨_,fb _ _ _,?_⟩;cases a1:wi f.acts[k].part 0 (f.bill.parts-1)
  .simp[a1] at hX ⊢
   first|exact hX|(exfalso;omega)
  simp[a1] at hX ⊢;refine⟨_,fb _ _ _,?_⟩;rw[oR] at hX;cases a2:wi f.acts[k].city 0 ((r.cities.length:Int)-1)
  .simp[a2] at hX ⊢
   first|exact hX|(exfalso;omega)
  simp[a2] at hX ⊢;refine⟨_,fb _ _ _,?_⟩;cases a3:wi f.acts[k].kind 0 9
  .simp[a3] at hX ⊢
   first|exact hX|(exfalso;omega)
  simp[a3] at hX ⊢;refine⟨_,avi r hr f f.acts[k] hl,?_⟩;cases a4:vF r f f.acts[k]
  .simp[a4] at hX ⊢
   first|exact hX|(exfalso;omega)
  simp[a4] at hX ⊢;unfold CB at hX;by_cases k0:k=0
  .subst k0;by_cases e1:f.acts[0].at_=-1
   .simp[e1] at hX;simp[e1];refine⟨_,fb _ _ _,?_⟩;split at hX
    .rename_i e;simp[e]
     first|exact hX|(exfalso;omega)
    .rename_i e
     first|(exfalso;omega)|simp[e]
   .obtain⟨h5,h6⟩:=aaS a4 e1;have h7:f.acts[0].at_.toNat<f.signs.length:=by omega
    have h8:eK f f.acts[0].at_=f.signs[f.acts[0].at_.toNat]:=by simp[eK,h7]
    simp[e1,h8] at hX;simp[e1,h5,h6,h7,TS,MF];refine⟨_,fb _ _ _,?_⟩;split at hX
    .rename_i e;simp[e]
     first|exact hX|(exfalso;omega)
    .rename_i e
     first|(exfalso;omega)|simp[e]
  .have bD:i64.wrap ((k:Int)-1)=(k:Int)-1:=aQ (by omega);have cE:((k:Int)-1).toNat=k-1:=by omega
   have mZ:k-1<f.acts.length:=by omega
   have Cd:0<k:=by omega
   by_cases e1:f.acts[k].at_=-1
   .simp[k0,e1,mZ] at hX;simp[e1,Cd,bD,cE,mZ,TS,MF];refine⟨by omega,_,fb _ _ _,?_⟩;split at hX
    .rename_i e;simp[e]
     first|exact hX|(exfalso;omega)
    .rename_i e
     first|(exfalso;omega)|simp[e]
   .obtain⟨h5,h6⟩:=aaS a4 e1;have h7:f.acts[k].at_.toNat<f.signs.length:=by omega
    have h8:eK f f.acts[k].at_=f.signs[f.acts[k].at_.toNat]:=by simp[eK,h7]
    simp[k0,e1,mZ,h8] at hX;simp[e1,Cd,bD,cE,mZ,h5,h6,h7,TS,MF];refine⟨by omega,_,fb _ _ _,?_⟩;split at hX
    .rename_i e;simp[e]
     first|exact hX|(exfalso;omega)
    .rename_i e
     first|(exfalso;omega)|simp[e]
def rh (a b:Int):Int:=if a<b then-1 else if b<a then 1 else 0
def aex (a:Int):ah T 143 [.int a] (.bool false):=by
 refine zyw 152 ayl ?_;simp[XH]
def aak (a b:Int):ah T 101 [.int a,.int b] (.int (rh a b)):=by
 refine zyw 151 ayj ?_;simp[XF];refine⟨_,aex a,_,aex b,?_⟩;unfold rh;by_cases h1:a<b
 .simp[h1]
 by_cases h2:b<a<;>simp[h1,h2]
def aks (l:List Int)(hl:l.length<=100000):ah T 100 [ints l] (.int (fU l.length λk=>l.getD k 0)):=by
 refine zyw 153 ayk ?_;simp[XG];refine qG l.length (λk=>l.getD k 0) (λk=>[.int 0,.int k]) (λ_=>[]) ?_ (λk hk ho=>?_) (λk hk ho hb=>?_) (λhj=>?_)
 .simp
 .have hw:=bx hk (by omega);have hx:l[k]=0:=by simpa [hk] using ho
  simp[VQ,Ho,hk,hx,hw]
 .have hx:¬l[k]=0:=by simpa [hk] using ho
  simp only[aE] at hb ⊢;rw[hb];simp[VQ,Ho,hk,hx]
 .simp only[aE] at hj ⊢;rw[hj];simp[VQ,Ho]
def or2 (a b:Int):(fU 2 λk=>[a,b].getD k 0)=if a=0 then b else a:=by
 have e:List.range 2=[0,1]:=rfl;unfold fU;rw[e];by_cases ha:a=0<;>by_cases hb:b=0<;>simp[ha,hb]
def Ay (x y:Fact):Prop:=x.at_<y.at_\/(x.at_=y.at_/\x.kind<y.kind)
instance (x y:Fact):Decidable (Ay x y):=by unfold Ay;infer_instance
def akI (x y:Fact):0<=(if rh x.at_ y.at_=0 then rh x.kind y.kind else rh x.at_ y.at_)↔¬Ay x y:=by
 unfold rh Ay
 repeat' split
 all_goals omega
def vO (f:File)(i:Nat):Int:=
 let x:=f.facts.getD i default
 if wi x.kind 0 4=false then 1 else if aC x.at_ f.signs.length=false then 1 else if wi x.n 0 1=false then 1
 else if i=0 then 0 else if Ay (f.facts.getD (i-1) default) x then 0 else 5
def avl (f:File)(hl:f.signs.length<=100000)(hlf:f.facts.length<=100000):ah T 61 [cf f] (.int (fU f.facts.length (vO f))):=by
 refine zyw 150 ayJ ?_;have cZ:i64.wrap ((f.signs.length:Int)-1)=(f.signs.length:Int)-1:=aQ (by omega);simp[X4];refine qG f.facts.length (vO f) (λk=>[.int 0,.int k]) (λ_=>[]) ?_ (λk hk ho=>?_) (λk hk ho hb=>?_) (λhj=>?_)
 .simp
 case' refine_2=>have hb:vO f k=vO f k:=rfl
 case' refine_3=>rw[hb]
 case refine_4=>simp[aiB,NY,hj]
 all_goals
  have hw:=bx hk (by omega);have hs:f.facts.getD k default=f.facts[k]:=by simp[hk]
  clear hb;generalize hX:vO f k=X at*;unfold vO at hX;simp only[hs] at hX;simp[aiB,NY,hk,cZ,hw];refine⟨_,fb _ _ _,?_⟩;cases a1:wi f.facts[k].kind 0 4
  .simp[a1] at hX ⊢
   first|exact hX|(exfalso;omega)
  simp[a1] at hX ⊢;refine⟨_,fb _ _ _,?_⟩;rw[oR] at hX;cases a2:wi f.facts[k].at_ 0 ((f.signs.length:Int)-1)
  .simp[a2] at hX ⊢
   first|exact hX|(exfalso;omega)
  simp[a2] at hX ⊢;refine⟨_,fb _ _ _,?_⟩;cases a3:wi f.facts[k].n 0 1
  .simp[a3] at hX ⊢
   first|exact hX|(exfalso;omega)
  simp[a3] at hX ⊢;by_cases k0:k=0
  .subst k0;simp at hX ⊢
   first|(exfalso;omega)|done
  .have bD:i64.wrap ((k:Int)-1)=(k:Int)-1:=aQ (by omega);have cE:((k:Int)-1).toNat=k-1:=by omega
   have mZ:k-1<f.facts.length:=by omega
   simp[k0,mZ] at hX;simp[k0,bD,cE,mZ];refine⟨by omega,_,aak _ _,_,aak _ _,?_⟩;have ho:=aks [rh f.facts[k-1].at_ f.facts[k].at_,rh f.facts[k-1].kind f.facts[k].kind] (by simp);simp only[qT,Aq] at ho;rw[or2] at ho;refine⟨_,ho,?_⟩;have ha:=akI f.facts[k-1] f.facts[k];generalize (if rh f.facts[k-1].at_ f.facts[k].at_=0 then rh f.facts[k-1].kind f.facts[k].kind else rh f.facts[k-1].at_ f.facts[k].at_)=n at*;clear ho;by_cases e:Ay f.facts[k-1] f.facts[k]
   .have hn:¬0<=n:=λh=>ha.1 h e;simp[e] at hX;simp[hn]
    first|done|(exfalso;omega)
   .have hn:0<=n:=ha.2 e;simp[e] at hX;simp[hn]
    first|exact hX|(exfalso;omega)
def vG (f:File)(i:Nat):Int:=
 let x:=f.alters.getD i default
 if wi x.at_ ((if i=0 then 0 else(f.alters.getD (i-1) default).at_)+1) f.signs.length=false then 1 else if wi x.sum 1 1099511627776=false then 3 else 0
structure PaperOK (r:Realm) (f:File):Prop where
 full:(f.signs.length<=40/\f.alters.length<=4)/\f.acts.length<=100/\f.facts.length<=200
 bill:BillOK r f.bill
 ne:f.signs≠[]
 signs:fU f.signs.length (Dv r f)=0
 alters:fU f.alters.length (vG f)=0
 acts:fU f.acts.length (uw r f)=0
 facts:fU f.facts.length (vO f)=0
def ahx (r:Realm)(hs:Small r)(f:File)(vS:f.OK):∃d,ah T 25 [aP r,cf f] d/\qO (PaperOK r f) d:=by
 refine ah.ex_of_tree rfl akV ayD ?_;simp[XY];by_cases hf:(f.signs.length<=40/\f.alters.length<=4)/\f.acts.length<=100/\f.facts.length<=200
 case neg=>
  rw[if_pos (by omega)];exact .no (λh=>hf h.full) (by decide)
 rw[if_neg (by omega)];obtain⟨d,hb,e,rfl,he⟩:=aAE r hs f.bill;refine⟨_,hb,?_⟩;by_cases e0:e=0
 case neg=>
  simp[e0];exact .no (λh=>e0 (he.2 h.bill)) e0
 have LB:=he.1 e0;simp[e0];by_cases au:f.signs=[]
 .simp[au];exact .no (λh=>h.ne au) (by decide)
 simp[au];refine qG f.signs.length (Dv r f) (λk=>[.int 0,.int k]) (λ_=>[]) ?_ (λk hk ho=>?_) (λk hk ho hb=>?_) (λhj=>?_)
 .simp
 .have hw:=bx hk (by omega);simp[VT,Hq,hk,hw];refine⟨_,ahy r hs f LB.parts k hk (by omega),?_⟩;simp[ho]
 .simp[VT,Hq,hk];refine⟨_,ahy r hs f LB.parts k hk (by omega),?_⟩;simp[ho];exact .no (λh=>ho (by rw[<-hb];exact h.signs)) ho
 simp[VT,Hq];have lG:∀k,k<f.alters.length->(∀j,j<k->vG f j=0)->i64.wrap ((if k=0 then 0 else(f.alters.getD (k-1) default).at_)+1)=(if k=0 then 0 else(f.alters.getD (k-1) default).at_)+1:=by
  intro k hk hj;refine aQ ?_;by_cases k0:k=0
  .rw[if_pos k0];omega
  .rw[if_neg k0];have h1:=hj (k-1) (by omega);have bD:k-1<f.alters.length:=by omega
   have h2:=(vS.2.2.1.2 _ (bU bD)).1;have h3:f.alters.getD (k-1) default=f.alters[k-1]:=by simp[bD]
   unfold vG at h1;rw[h3] at h1 ⊢;simp only at h1;generalize (if k-1=0 then(0:Int) else(f.alters.getD (k-1-1) default).at_)=L0 at h1;split at h1
   .cases h1
   .rename_i hh;simp[wi] at hh;unfold ba at h2;omega
 refine aO.scan f.alters.length (λk=>vG f k=0) (λk=>[.int 0,.int (if k=0 then 0 else(f.alters.getD (k-1) default).at_),.int k]) (λ_=>[]) ?_ (λk hk tn ho=>?_) (λk hk tn ho=>?_) (λyM=>?_)
 .simp
 .have hw:=bx hk (by omega);have hl:=lG k hk tn;generalize hL:(if k=0 then 0 else(f.alters.getD (k-1) default).at_)=L at*;have hs:f.alters.getD k default=f.alters[k]:=by simp[hk]
  unfold vG at ho;simp only[hs,hL] at ho;simp[VU,Hr,hk,hl];refine⟨_,fb _ _ _,?_⟩;cases a1:wi f.alters[k].at_ (L+1) f.signs.length
  .simp[a1] at ho
  simp[a1] at ho ⊢;refine⟨_,fb _ _ _,?_⟩;simp[ho,hw]
 .have hl:=lG k hk tn;have FE:=Rj hk tn ho;generalize hL:(if k=0 then 0 else(f.alters.getD (k-1) default).at_)=L at*;have hs:f.alters.getD k default=f.alters[k]:=by simp[hk]
  have bad:∀e:Int,e≠0->qO (PaperOK r f) (.int e):=λe h=>.no (λh=>ho (by rw[<-FE];exact h.alters)) h;unfold vG at ho;simp only[hs,hL] at ho;simp[VU,Hr,hk,hl];refine⟨_,fb _ _ _,?_⟩;cases a1:wi f.alters[k].at_ (L+1) f.signs.length
  .simp;exact bad 1 (by decide)
  simp[a1] at ho ⊢;refine⟨_,fb _ _ _,?_⟩;simp[ho];exact bad 3 (by decide)
 have yM:=Rl yM;simp[VU,Hr];refine⟨_,avj r hs f LB.parts (by omega) (by omega),?_⟩;by_cases e3:fU f.acts.length (uw r f)=0
 case neg=>
  simp[e3];exact .no (λh=>e3 h.acts) e3
 simp[e3];refine⟨_,avl f (by omega) (by omega),?_⟩;exact⟨_,rfl,λh=>⟨hf,LB,au,hj,yM,e3,h⟩,λh=>h.facts⟩
def ahw {α:Type}(key:α->Int)(l:List α)(h:∀i (h1:i+1<l.length),key (l[i]'(by omega))<=key l[i+1]):l.Pairwise λa b=>key a<=key b:=by
 rw[I3];intro i j hi hj dw;obtain⟨d,rfl⟩:∃d,j=i+1+d:=⟨j-i-1,by omega⟩
 clear dw
 induction d with
 |zero=>exact h i hj
 |succ d ih=>exact xJ (ih (by omega)) (h (i+1+d) hj)
structure Sorted (f:File):Prop where
 signs:f.signs.Pairwise λa b=>a.day<=b.day
 acts:f.acts.Pairwise λa b=>a.day<=b.day
 aHA:∀s,s∈f.signs->0<=s.day
 aDA:∀a,a∈f.acts->0<=a.day
structure SignOK (r:Realm) (f:File) (i:Nat) (s:Sign):Prop where
 part:0<=s.part/\s.part<=f.bill.parts-1
 who:0<=s.who/\s.who<r.firms.length
 city:0<=s.city/\s.city<r.cities.length
 day:ma f i<=s.day/\s.day<=100000
 fits:yw r f i=true
 once:II f i s=false
def PaperOK.sign {r:Realm}{f:File}(h:PaperOK r f)(i:Nat)(hi:i<f.signs.length):SignOK r f i f.signs[i]:=by
 have h1:=BO h.signs i hi;have hs:f.signs.getD i default=f.signs[i]:=by simp[hi]
 unfold Dv at h1;simp only[hs] at h1;split at h1
 .cases h1
 rename_i a1;split at h1
 .cases h1
 rename_i a2;split at h1
 .cases h1
 rename_i a3;split at h1
 .cases h1
 rename_i a4;split at h1
 .cases h1
 rename_i a5;simp[wi,aC] at a1 a2 a3;exact⟨⟨by omega,by omega⟩,⟨by omega,by omega⟩,⟨by omega,by omega⟩,⟨by omega,by omega⟩,by simpa using a4,by simpa using a5⟩
structure DL (r:Realm) (f:File) (i:Nat) (a:Act):Prop where
 part:0<=a.part/\a.part<=f.bill.parts-1
 city:0<=a.city/\a.city<r.cities.length
 kind:0<=a.kind/\a.kind<=9
 fits:vF r f a=true
 day:CB f i a<=a.day/\a.day<=100000
def PaperOK.act {r:Realm}{f:File}(h:PaperOK r f)(i:Nat)(hi:i<f.acts.length):DL r f i f.acts[i]:=by
 have h1:=BO h.acts i hi;have hs:f.acts.getD i default=f.acts[i]:=by simp[hi]
 unfold uw at h1;simp only[hs] at h1;split at h1
 .cases h1
 rename_i a1;split at h1
 .cases h1
 rename_i a2;split at h1
 .cases h1
 rename_i a3;split at h1
 .cases h1
 rename_i a4;simp[wi,aC] at a1 a2 a4;exact⟨⟨by omega,by omega⟩,⟨by omega,by omega⟩,⟨by omega,by omega⟩,by simpa using a3,by omega⟩
def aeQ (f:File)(i:Nat)(a:Act):f.bill.day<=CB f i a/\(i≠0->(f.acts.getD (i-1) default).day<=CB f i a):=by
 unfold CB;refine⟨?_,λh=>?_⟩
 .simp only;split<;>split<;>omega
 .simp only[if_neg h];omega
def PaperOK.day {r:Realm}{f:File}(h:PaperOK r f):0<=f.bill.day/\f.bill.day<=100000:=by
 have:=h.bill.range;unfold zO at this;omega
def Rm {r:Realm}{f:File}(h:PaperOK r f):∀i,i<f.signs.length->0<=ma f i
 |0,_=>by simp[ma];exact h.day.1
 |i+1,hi=>by
  have h1:=(h.sign i (by omega)).day.1;have h2:=Rm h i (by omega);have e:ma f (i+1)=f.signs[i].day:=by simp[ma,show i<f.signs.length by omega]
  omega
def PaperOK.sorted {r:Realm}{f:File}(h:PaperOK r f):Sorted f:=by
 refine⟨ahw (·.day) f.signs λi hi=>?_,ahw (·.day) f.acts λi hi=>?_,λs hs=>?_,λa ha=>?_⟩
 .have h1:=(h.sign (i+1) hi).day.1;have e:ma f (i+1)=f.signs[i].day:=by simp[ma,show i<f.signs.length by omega]
  rw[e] at h1;exact h1
 .have h1:=(h.act (i+1) hi).day.1;have h2:=(aeQ f (i+1) f.acts[i+1]).2 (by omega);have e:f.acts.getD (i+1-1) default=f.acts[i]:=by simp[show i<f.acts.length by omega]
  rw[e] at h2;exact xJ h2 h1
 .obtain⟨i,hi,rfl⟩:=ew hs;exact xJ (Rm h i hi) (h.sign i hi).day.1
 .obtain⟨i,hi,rfl⟩:=ew ha;have h1:=(h.act i hi).day.1;have h2:=(aeQ f i f.acts[i]).1;have:=h.day;omega
def axg {r:Realm}{f:File}{i:Nat}(hi:i<f.signs.length)(h:yw r f i=true)(hk:f.signs[i].kind=1\/f.signs[i].kind=4):1<=f.signs[i].sum/\f.signs[i].sum<=1099511627776:=by
 have hs:f.signs.getD i default=f.signs[i]:=by simp[hi]
 unfold yw at h;rw[hs] at h;unfold Lb at h;split at h
 .cases h
 split at h
 .cases h
 unfold Ro at h;rcases hk with hk|hk
 .simp[hk,wi] at h;omega
 .simp[hk,wi] at h;omega
def PaperOK.sums {r:Realm}{f:File}(h:PaperOK r f):SumsOK f:=by
 have hr:=h.bill.range;unfold zO at hr;refine⟨by omega,by omega,λa ha=>?_,λs hs hk=>?_⟩
 .obtain⟨i,hi,rfl⟩:=ew ha;have h1:=BO h.alters i hi;have hs:f.alters.getD i default=f.alters[i]:=by simp[hi]
  unfold vG at h1;simp only[hs] at h1;generalize (if i=0 then(0:Int) else(f.alters.getD (i-1) default).at_)=L at h1;split at h1
  .cases h1
  split at h1
  .cases h1
  rename_i a1;simp[wi] at a1;omega
 .obtain⟨i,hi,rfl⟩:=ew hs;exact axg hi (h.sign i hi).fits hk
def IK (fr to:Int)(u:Usance):Bool:=decide (u.fr=fr)&&decide (u.to=to)
def IJ (l:List Usance)(fr to:Int):Int×Int:=match l.find? (IK fr to) with|some u=>(u.days,0)|none=>(0,4)
def akx (r:Realm)(fr to:Int)(hl:r.usances.length<=100000):ah T 97 [aP r,.int fr,.int to] (.tup [.int (IJ r.usances fr to).1,.int (IJ r.usances fr to).2]):=by
 refine .of_tree rfl aa6 ajE ?_;simp[OY];unfold IJ;refine aO.scan r.usances.length (λk=>IK fr to (r.usances.getD k default)=false) (λk=>[.int 0,.int 0,.int k]) (λ_=>[]) ?_ (λk hk hj ar=>?_) (λk hk hj ar=>?_) (λhj=>?_)
 .simp
 .have hw:=bx hk (by omega);have hn:¬(r.usances[k].fr=fr/\r.usances[k].to=to):=by simpa [IK,hk] using ar
  simp[Dh,w7,hk,hw,hn]
 .have lD:=BN hk (by simpa [hk] using ar) (λj bC=>by have:=hj j bC;simpa [show j<r.usances.length by omega] using this);have hc:r.usances[k].fr=fr/\r.usances[k].to=to:=by simpa [IK,hk] using ar
  rw[lD];simp[Dh,w7,hk,hc]
 .have lD:=E6 (l:=r.usances) (p:=IK fr to) (λj bC=>by have:=hj j bC;simpa [bC] using this);rw[lD];simp[Dh,w7]
def Ji (d:Int)(t:Tenor):Int×Int:=((D2 d t).choose,(D2 d t).choose_spec.choose)
def aaT (d:Int)(t:Tenor):ah T 146 [.int d,pS t] (.tup [.int (Ji d t).1,.int (Ji d t).2]):=(D2 d t).choose_spec.choose_spec
def ya (l:List Usance)(b:Bill)(seen:Int):Int×Int:=
 if b.tenor.kind=0 then(seen,0) else if b.tenor.kind=1 then Ji seen b.tenor else if b.tenor.kind=2 then Ji b.day b.tenor
 else if b.tenor.kind=4 then(i64.wrap (b.day+(IJ l b.city b.pay).1),(IJ l b.city b.pay).2) else(b.tenor.n,0)
def ala (r:Realm)(hr:RightD r)(b:Bill)(seen:Int):ah T 107 [aP r,dJ b,.int seen] (.tup [.int (ya r.usances b seen).1,.int (ya r.usances b seen).2]):=by
 have S6:D.agg [D.int b.tenor.kind,D.int b.tenor.n,D.int b.tenor.unit]=pS b.tenor:=rfl;refine .of_tree rfl x9 z7 ?_;unfold ya;by_cases h0:b.tenor.kind=0
 .simp[pq,h0]
 by_cases h1:b.tenor.kind=1
 .have h:=aaT seen b.tenor;have cw:(b.tenor.kind=1)=True:=eq_true h1;simp[pq,h0,cw];exact⟨_,h,by simp⟩
 by_cases h2:b.tenor.kind=2
 .have h:=aaT b.day b.tenor;have gU:(b.tenor.kind=2)=True:=eq_true h2;simp[pq,h0,h1,gU];exact⟨_,h,by simp⟩
 by_cases h4:b.tenor.kind=4
 .have h:=akx r b.city b.pay (by have:=hr.small.us;omega);have oE:(b.tenor.kind=4)=True:=eq_true h4;simp[pq,h0,h1,h2,oE];exact⟨_,h,by simp⟩
 .simp[pq,h0,h1,h2,h4]
def Mp (r:Realm)(pay bZ:Int)(x:Int×Int):Int×Int:=
 if x.2≠0 then(0,x.2) else if eB x.1=false\/100000<i64.wrap (x.1+bZ) then(0,3) else lX r pay (i64.wrap (x.1+bZ))
def yo (r:Realm)(b:Bill)(seen bZ:Int):Int×Int:=
 if iw r≠0\/aC b.city r.cities.length=false\/aC b.pay r.cities.length=false\/eB b.day=false then(0,1)
 else if((b.tenor.kind<0\/5<=b.tenor.kind)\/b.tenor.unit<0)\/2<=b.tenor.unit then(0,1)
 else if((¬seen=-1/\eB seen=false)\/bZ<0)\/20000<bZ then(0,1)
 else if Du b.tenor=true/\seen=-1 then(0,4)
 else Mp r b.pay bZ (ya r.usances b seen)
def akb (r:Realm)(hr:RightD r)(b:Bill)(seen bZ:Int):ah T 65 [aP r,dJ b,.int seen,.int bZ] (.tup [.int (yo r b seen bZ).1,.int (yo r b seen bZ).2]):=by
 have S6:D.agg [D.int b.tenor.kind,D.int b.tenor.n,D.int b.tenor.unit]=pS b.tenor:=rfl;have jR:=Oi r hr.small;obtain⟨G,hG⟩:∃G,G=yo r b seen bZ:=⟨_,rfl⟩
 rw[<-hG];unfold yo at hG;refine .of_tree rfl PM Zl ?_;simp[IF];refine⟨_,jR,?_⟩;by_cases h0:iw r=0
 case neg=>simp[h0] at hG ⊢;simp[hG]
 simp[h0] at hG ⊢;refine⟨_,Cw r b.city,?_⟩;cases h1:aC b.city r.cities.length
 .simp[h1] at hG ⊢;simp[hG]
 simp[h1] at hG ⊢;refine⟨_,Cw r b.pay,?_⟩;cases h2:aC b.pay r.cities.length
 .simp[h2] at hG ⊢;simp[hG]
 simp[h2] at hG ⊢;refine⟨_,wE b.day,?_⟩;cases h3:eB b.day
 .simp[h3] at hG ⊢;simp[hG]
 simp[h3] at hG ⊢;have hp:0<=b.pay/\b.pay<r.cities.length:=by simpa [aC] using h2
 by_cases h4:((b.tenor.kind<0\/5<=b.tenor.kind)\/b.tenor.unit<0)\/2<=b.tenor.unit
 .rw[if_pos h4] at hG ⊢;simp[hG]
 rw[if_neg h4] at hG ⊢;have fin:G=Mp r b.pay bZ (ya r.usances b seen)->0<=bZ->bZ<=20000->∃d,ah T 107 [aP r,dJ b,D.int seen] d/\
  if(d.tget 1).i=0 then ∃d1,ah T 105 [d.tget 0] d1/\(if d1.b=false\/100000<i64.wrap ((d.tget 0).i+bZ) then 0=G.1/\3=G.2 else
        ∃d2,ah T 108 [aP r,D.int b.pay,D.int (i64.wrap ((d.tget 0).i+bZ))] d2/\d2.tget 0=D.int G.1/\d2.tget 1=D.int G.2)
  else 0=G.1/\d.tget 1=D.int G.2:=by
  intro hG yI jU;refine⟨_,ala r hr b seen,?_⟩;unfold Mp at hG;generalize ya r.usances b seen=B at*;obtain⟨n,e⟩:=B;by_cases he:e=0
  .simp[he] at hG ⊢;refine⟨_,wE n,?_⟩;cases hd:eB n
   .simp[hd] at hG ⊢;simp[hG]
   have gw:0<=n/\n<=100000:=by simpa [eB] using hd
   have hw:i64.wrap (n+bZ)=n+bZ:=aQ (by omega);simp[hd,hw] at hG ⊢;by_cases hle:100000<n+bZ
   .rw[if_pos hle] at hG ⊢;simp[hG]
   .rw[if_neg hle] at hG ⊢;refine⟨_,WX r hr.halts b.pay (n+bZ) hp hr.cities (by omega) (by omega),?_⟩;simp[hG]
  .simp[he] at hG ⊢;simp[hG]
 by_cases hs:seen=-1
 .simp[hs] at fin hG ⊢;by_cases h5:bZ<0\/20000<bZ
  .rw[if_pos h5] at hG ⊢;simp[hG]
  rw[if_neg h5] at hG ⊢;refine⟨_,DZ b.tenor,?_⟩;cases h6:Du b.tenor
  .simp[h6] at hG ⊢;exact fin hG (by omega) (by omega)
  .simp[h6] at hG ⊢;simp[hG]
 .simp[hs] at fin hG ⊢;refine⟨_,wE seen,?_⟩;cases hk:eB seen
  .simp[hk] at hG ⊢;simp[hG]
  simp[hk] at hG ⊢;by_cases h5:bZ<0\/20000<bZ
  .rw[if_pos h5] at hG ⊢;simp[hG]
  rw[if_neg h5] at hG ⊢;exact⟨⟨_,DZ b.tenor⟩,fin hG (by omega) (by omega)⟩
def amL {r:Realm}(hr:RightD r)(b:Bill)(seen bZ:Int):rl r b seen bZ=yo r b seen bZ:=by
 have h:=(Pg r hr b seen bZ).det (akb r hr b seen bZ);simp at h;exact Prod.ext h.1 h.2
instance (a b:Int):Decidable (ajq a b):=by unfold ajq;infer_instance
def axd {r:Realm}(hh:xI r)(city:Int){d:Int}(h0:0<=d)(hd:d<=100001):(lX r city d).2=0->0<=(lX r city d).1/\(lX r city d).1<=100000:=by
 unfold lX;generalize r.cities.getD city.toNat default=c;generalize gE r city=o;have key:∀(n:Nat) (d:Int),0<=d->d<=100001->(100002-d).toNat<=n->(tZ r c o n d).2=0->0<=(tZ r c o n d).1/\(tZ r c o n d).1<=100000:=by
  intro n
  induction n with
  |zero=>intro d h0 h1 h2;omega
  |succ n ih=>
   intro e h1 h2 h3;have Co:=W5 hh o (100002-e).toNat e h2;rw[aji];change e<=j9 r o e/\j9 r o e<=100001 at Co;generalize j9 r o e=x at*;have p7:=afy (c:=c) (d:=x);by_cases he:(jA c x).2=0
   .obtain⟨g1,g2,g3⟩:=p7 he;rw[if_neg (by simp[he])];by_cases hy:(jA c x).1=x
    .rw[if_pos hy];intro _;have e1:((x,0):Int×Int).1=x:=rfl;omega
    .rw[if_neg hy];exact ih _ (by omega) (by omega) (by omega)
   .rw[if_pos he];intro h;cases h
 exact key _ d h0 hd (aX _)
def aul {r:Realm}(hr:RightD r)(forum:Int)(f:File)(day:Int):dW r forum f day=-1\/(0<=dW r forum f day/\dW r forum f day<=100000):=by
 unfold dW;by_cases au:(bh f day).signs=[]
 .rw[if_pos au];exact .inl rfl
 rw[if_neg au,amL hr];generalize nA (bh f day)=sn;generalize max (qo (km r forum 6 (bh f day) day)) 0=g;by_cases he:(yo r f.bill sn g).2=0
 case neg=>rw[if_pos he];exact .inl rfl
 rw[if_neg (by simp[he])];right;unfold yo at he ⊢;split at he
 .cases he
 rename_i c1;rw[if_neg c1];split at he
 .cases he
 rename_i c2;rw[if_neg c2];split at he
 .cases he
 rename_i c3;rw[if_neg c3];split at he
 .cases he
 rename_i c4;rw[if_neg c4];generalize ya r.usances f.bill sn=B at*;unfold Mp at he ⊢;split at he
 .rename_i hb;exact absurd he hb
 rename_i c5;rw[if_neg c5];split at he
 .cases he
 rename_i c6;rw[if_neg c6];have hd:0<=B.1/\B.1<=100000:=by
  have:¬eB B.1=false:=λe=>c6 (.inl e);simpa [eB] using this
 have hw:i64.wrap (B.1+g)=B.1+g:=aQ (by omega);rw[hw] at he c6 ⊢;exact axd hr.halts f.bill.pay (by omega) (by omega) he
def apl {r:Realm}(h:iw r=0):IU r/\xH r:=by
 unfold iw at h;rw[Ov] at h;refine⟨λx hx=>?_,λg hg=>?_⟩
 .obtain⟨k,hk,rfl⟩:=ew hx;have h1:=h (eN (eY r) 200 (oB r)) (by simp);unfold eN at h1;split at h1
  .cases h1
  have h2:=Rk.1 h1 k (by simpa [eY] using hk);have h3:=(BP h2).2;simp[oB,aC,hk] at h3;omega
 .obtain⟨k,hk,rfl⟩:=ew hg;have h1:=h (s9 r) (by simp);unfold s9 at h1;split at h1
  .cases h1
  split at h1
  .rename_i h2;have h3:=(xY.1 h2) k hk;simp[vQ,aC,hk] at h3;omega
  .cases h1
def ahD {r:Realm}{f:File}(G:Good r f)(hc:iw r=0)(hP:PaperOK r f)(forum day:Int):PayOK r (dG r forum f day):=by
 have cU:=ab1 r forum f day;have vX:=G.few.signs;obtain⟨R3,uR⟩:=apl hc;have hS:=hP.sums.at_ day;have each:∀e,e∈rv r forum f day->(0<=e.firm/\e.firm<r.firms.length)/\0<=e.sum/\e.sum<=1099511627776:=by
  intro e he;unfold rv at he;obtain⟨k,hk,rfl⟩:=cr.1 he;have bf:k<(bh f day).signs.length:=fu.1 hk;have h1:=anx (v:=dz r forum f day) hS k (by omega) (by show(k:Int)<((bh f day).signs.length:Int);omega);refine⟨?_,by omega,h1.2⟩;have hm:(bh f day).signs[k]∈f.signs:=(I6 _).subset (bU bf);obtain⟨i,hi,e⟩:=ew hm;have h2:=(hP.sign i hi).who;have h3:(l6 (dz r forum f day) k).firm=((bh f day).signs[k]).who:=by
   show((bh f day).signs.getD (k:Int).toNat default).who=_;simp[bf]
  rw[h3,<-e];exact h2
 refine⟨λe he=>(each e (eR.1 he).1).1,λe he=>(each e (eR.1 he).1).2,R3,uR,?_⟩;exact gm (pA _ _) (by omega)
def abF {r:Realm}(hr:RightD r){f:File}(h:PaperOK r f)(forum day:Int):dW r forum f day=-1\/(0<=dW r forum f day/\dW r forum f day<=100000/\0<=day):=by
 rcases aul hr forum f day with e|⟨h0,h1⟩
 .exact .inl e
 .have au:(bh f day).signs≠[]:=λe=>by unfold dW at h0;rw[if_pos e] at h0;omega
  obtain⟨s,hs⟩:=List.exists_mem_of_ne_nil _ au;have hp:=cN.1 List.all_takeWhile s hs;obtain⟨i,hi,rfl⟩:=ew ((I6 _).subset hs);have h2:=(h.sign i hi).day.1;have h3:=Rm h i hi;simp at hp;exact .inr ⟨h0,h1,by omega⟩
def apc (r:Realm)(f:File)(q:Quote):Prop:=q.fails.length<=20/\Fg r f=true/\PaperOK r f
def ald (r:Realm)(hr:r.OK)(f:File)(vS:f.OK)(q:Quote):∃d,ah T 6 [aP r,cf f,lz q] d/\∃b:Bool,d=.bool b/\(b=true->apc r f q):=by
 refine ah.ex_of_tree rfl akU ays ?_;simp[XN];by_cases hl:q.fails.length<=20
 case neg=>
  have tp:¬((q.fails.length:Int)<=20):=by omega
  simp[hl,tp]
  try exact⟨⟨_,aio r f hr⟩,by simp⟩
 have tp:(q.fails.length:Int)<=20:=by omega
 simp[tp];refine⟨_,aio r f hr,?_⟩;cases e1:uG r f
 .simp
 have hs:Small r:=Rg hr (by simp only[uG,ao] at e1;exact e1.1.1);simp;refine⟨_,avS r hs,?_⟩;by_cases e2:iw r=0
 case neg=>simp[e2]
 obtain⟨d,hd,e,rfl,he⟩:=ahx r hs f vS;simp[e2];refine⟨_,hd,?_⟩;simp;by_cases e0:e=0
 .exact .inr ⟨e0,hl,by simp[Fg,e1,e2],he.1 e0⟩
 .exact .inl e0
def xD:Order:=⟨⟨#[103,101,110,101,118,97]⟩,false,[],[⟨0,.mk 1 1 []⟩,⟨1,.mk 1 1 []⟩,⟨2,.mk 2 15 []⟩]⟩
def bz:Realm:=⟨[⟨#[102,114,97,110,99]⟩],[⟨⟨#[76,121,111,110]⟩,0,0,[],[],[]⟩],[⟨3⟩,⟨5⟩],[⟨⟨#[97]⟩,0,1⟩,⟨⟨#[98]⟩,0,0⟩],[xD],[],[],[]⟩
def Ad:Bill:=⟨0,1,0,1000,0,⟨3,40,0⟩,2,0,0,-1,0,1,1⟩
def cn (s d:Int):File:=⟨Ad,[⟨0,0,0,-1,-1,0,2,0,0⟩,⟨1,0,1,-1,-1,s,3,0,0⟩],[],[],[⟨0,0,d⟩,⟨0,1,1⟩]⟩
def il:Quote:=⟨100,[⟨1,1⟩,⟨1,1⟩,⟨1,1⟩,⟨1,10⟩,⟨1,1⟩,⟨1,2⟩,⟨1,1⟩,⟨1,1⟩,⟨1,1⟩,⟨1,1⟩]⟩
def aAL:ah T 17 [] (aP bz):=by
 refine zyw 2 ayt ?_;simp[XO,zzy,aP,bz,xD,strs,pP,groups,firms,orders,rules,choices,usances,rates,halts,-aGZ]
 try rfl
def DI:ah T 19 [] (lz il):=by
 refine zyw 3 ayu ?_;simp[XP];refine aO.forRounds 10 (λk=>[.int k]) (λk=>[.list ((List.range 10).map λi=>if i<k then oz ⟨1,1⟩ else oz ⟨0,0⟩)]) ?_ (λk hk=>?_) ?_
 .simp
  try rfl
 .have hw:=bx hk (by omega);have bf:(k:Int)<10:=by omega
  rcases k with _|_|_|_|_|_|_|_|_|_|k
  all_goals first|omega|skip
  all_goals
   simp[aiy,NV]
   first|rfl|exact⟨aQ (by omega),rfl⟩
 .simp[aiy,NV]
  try rfl
def DH (s d:Int):ah T 20 [.int s,.int d] (cf (cn s d)):=by
 refine zyw 11 ayr ?_;simp[XM]
 try rfl
def aAV:Small bz:=by
 refine⟨by decide,by decide,by decide,by decide,by decide,by decide,by decide,by decide,?_,?_,?_⟩
 .intro c hc;simp[bz] at hc;rcases hc with rfl;simp
 .intro o ho;simp[bz] at ho;rcases ho with rfl;simp[xD]
 .intro x hx;simp[bz] at hx
def IN:RightD bz:=⟨aAV,by decide,λh hh=>by simp[bz] at hh⟩
def Z6:Right bz:=by
 have n:∀a k:Int,0<=a->a<=100->0<=k->k<=100->(Tm.mk a k []).OK:=λa k h1 h2 h3 h4=>.mk _ _ [] (Mg (by omega)) (Mg (by omega)) (by decide) (λ_ h=>by cases h);refine⟨?_,by decide,?_⟩
 .intro o ho;obtain rfl:o=xD:=by simpa [bz] using ho
  exact⟨by decide,λch h=>by simp[xD] at h⟩
 .intro o ho;obtain rfl:o=xD:=by simpa [bz] using ho
  refine⟨⟨⟨by decide,λch h=>by simp[xD] at h⟩,by decide,?_⟩,by decide⟩;intro x hx;simp[xD] at hx;rcases hx with rfl|rfl|rfl
  all_goals exact⟨Mg (by decide),n _ _ (by decide) (by decide) (by decide) (by decide)⟩
def Z0 (s d:Int):FewS (cn s d):=⟨by simp[cn],by simp[cn],by simp[cn],by simp[cn]⟩
def aAP (s d:Int)(h1:(bh (bh (cn s d) 4) 4).signs≠[])(h2:nA (bh (bh (cn s d) 4) 4)=-1)(h3:max (qo (km bz 0 6 (bh (bh (cn s d) 4) 4) 4)) 0=0):dW bz 0 (bh (cn s d) 4) 4=40:=by
 have h5:lX bz 0 40=(40,0):=by kernel_rfl
 have h4:rl bz Ad (-1) 0=lX bz 0 (40+0):=abP (b:=Ad) IN (by kernel_rfl) (by decide) (by decide) (by decide) rfl rfl (by decide) (by omega) (by show(40:Int)+0<=100000;omega);unfold dW;rw[if_neg h1,h2,h3,show(bh (cn s d) 4).bill=Ad from rfl,h4,show(40:Int)+0=40 from rfl,h5];simp
def ZZ (s d:Int)(l:List Effect)(h1:(bh (bh (cn s d) 4) 4).signs≠[])(h2:nA (bh (bh (cn s d) 4) 4)=-1)(h3:max (qo (km bz 0 6 (bh (bh (cn s d) 4) 4) 4)) 0=0)
 (h:((List.range (bh (cn s d) 4).signs.length).map λ(k:Nat)=>l6 ⟨bz,0,4,bh (cn s d) 4,vn (km bz 0 0 (bh (cn s d) 4) 4),40⟩ k).filter Mt=l):dG bz 0 (cn s d) 4=l:=by
 unfold dG rv dz;rw[aAP s d h1 h2 h3];exact h
def Z1:dG bz 0 (cn 1000 0) 4=[⟨1,1,1,1,0,1000,false⟩]:=ZZ 1000 0 _ (by decide) (by kernel_rfl) (by kernel_rfl) (by kernel_rfl)
def ajT:dG bz 0 (cn 1000 1) 4=[⟨0,0,0,1,0,1000,true⟩,⟨1,1,1,1,0,1000,false⟩]:=ZZ 1000 1 _ (by decide) (by kernel_rfl) (by kernel_rfl) (by kernel_rfl)
def Pa:dG bz 0 (cn 600 1) 4=[⟨0,0,0,1,0,1000,true⟩,⟨1,1,1,1,0,600,false⟩]:=ZZ 600 1 _ (by decide) (by kernel_rfl) (by kernel_rfl) (by kernel_rfl)
def Z5:kG il=0:=by decide
def ajY:l0 il.fails:=(Hb Z5).2.2
def aAO:IU bz:=by
 intro f hf;simp[bz] at hf;rcases hf with rfl|rfl<;>decide
def ajS:xH bz:=by
 intro g hg;simp[bz] at hg;rcases hg with rfl|rfl<;>decide
def Z3 {l:List Effect}(h1:∀e,e∈l->(0<=e.firm/\e.firm<2)/\0<=e.sum/\e.sum<=1000)(h2:l.length<=2):PayOK bz l:=
 ⟨λe he=>(h1 e he).1,λe he=>by have:=(h1 e he).2;omega,aAO,ajS,by omega⟩
def Z7 {l l':List Effect}{n:Int}(hp:∀e,e∈l'↔e∈l)(hs:l'.Pairwise λa b=>a.sum<=b.sum)(h0:∀e,e∈l->0<=e.sum/\e.sum<=1000)(h:(iy (eQ bz l il.fails) (l'.map (·.sum))).1=n):ln bz l il.fails=n:=by
 rw[<-ajO (r:=bz) ajY hp hs (λe he=>by have:=h0 e he;omega),h]
def ajZ:ln bz [⟨1,1,1,1,0,1000,false⟩] il.fails=900:=Z7 (l':=[⟨1,1,1,1,0,1000,false⟩]) (λe=>Iff.rfl) (by simp) (by simp) (by kernel_rfl)
def aAW:ln bz [⟨0,0,0,1,0,1000,true⟩,⟨1,1,1,1,0,1000,false⟩] il.fails=950:=Z7 (l':=[⟨0,0,0,1,0,1000,true⟩,⟨1,1,1,1,0,1000,false⟩]) (λe=>Iff.rfl) (by simp) (by simp) (by kernel_rfl)
def aj0:ln bz [⟨0,0,0,1,0,1000,true⟩,⟨1,1,1,1,0,600,false⟩] il.fails=770:=Z7 (l':=[⟨1,1,1,1,0,600,false⟩,⟨0,0,0,1,0,1000,true⟩]) (λe=>by simp[or_comm]) (by simp) (by simp) (by kernel_rfl)
def IP (s d:Int){l:List Effect}{n:Int}(hl:dG bz 0 (cn s d) 4=l)(hw:ln bz l il.fails=n):fP bz 0 (cn s d) 4 il=(n,0):=by
 unfold fP;rw[if_neg (by rw[Z5];simp;decide),hl,hw]
def Z2 (s d:Int)(h1:(bh (cn s d) 4).signs≠[])(h2:nA (bh (cn s d) 4)=-1)(h3:max (qo (km bz 0 6 (bh (cn s d) 4) 4)) 0=0):dW bz 0 (cn s d) 4=40:=by
 have h5:lX bz 0 40=(40,0):=by kernel_rfl
 have h4:rl bz Ad (-1) 0=lX bz 0 (40+0):=abP (b:=Ad) IN (by kernel_rfl) (by decide) (by decide) (by decide) rfl rfl (by decide) (by omega) (by show(40:Int)+0<=100000;omega);unfold dW;rw[if_neg h1,h2,h3,show(cn s d).bill=Ad from rfl,h4,show(40:Int)+0=40 from rfl,h5];simp
def ajU:dW bz 0 (cn 1000 0) 4=40:=Z2 1000 0 (by decide) (by kernel_rfl) (by kernel_rfl)
def ajV:dW bz 0 (cn 1000 1) 4=40:=Z2 1000 1 (by decide) (by kernel_rfl) (by kernel_rfl)
def ajW:dW bz 0 (cn 600 1) 4=40:=Z2 600 1 (by decide) (by kernel_rfl) (by kernel_rfl)
def aAN:ah T 18 [aP bz,ints [0,1],lz il] (.tup [.int 50000000,.int 0]):=by
 have hc:=abu bz [0,1] il (by intro g hg;simp at hg;rcases hg with rfl|rfl<;>decide) ajS ajY (by decide);rw[show q8 bz [0,1] il.fails=50000000 by kernel_rfl] at hc;have hk:=Pf il (by decide);rw[Z5] at hk;refine zyw 4 ayO ?_;simp[X8];refine⟨_,hk,?_⟩;refine aO.forRounds 2 (λk=>[.bool false,.int k]) (λ_=>[]) ?_ (λk hk=>?_) ?_
 .simp
 .rcases k with _|_|k
  .simp[VV,Hs,ints];decide
  .simp[VV,Hs,ints];decide
  .omega
 .simp[VV,Hs,ints];exact hc
def akm (r:Realm)(hr:Right r)(hd:RightD r)(forum:Int)(f:File)(day s:Int)(hf:FewS f)(ho:0<=forum/\forum<r.orders.length)(hp:PayOK r (dG r forum f day)):ah T 12 [aP r,.int forum,cf f,.int day,.int s] (ints (iZ r (dG r forum f day) s)):=by
 refine zyw 116 ayR ?_;simp[Ya];refine⟨_,Tu r forum,?_⟩;simp[ho];refine⟨_,aeT r hr hd forum f day hf,?_⟩;exact acw r _ s hp.firms hp.len
def aAR:j3 bz 0 (cn 1000 0) 4 il=(891,0):=by
 unfold j3;rw[IP 1000 0 Z1 ajZ,ajU];decide
def aAS:j3 bz 0 (cn 1000 1) 4 il=(940,0):=by
 unfold j3;rw[IP 1000 1 ajT aAW,ajV];decide
def aAT:j3 bz 0 (cn 600 1) 4 il=(762,0):=by
 unfold j3;rw[IP 600 1 Pa aj0,ajW];decide
def ajX:PayOK bz (dG bz 0 (cn 1000 0) 4):=by rw[Z1];exact Z3 (by simp) (by simp)
def aAU:PayOK bz (dG bz 0 (cn 1000 1) 4):=by rw[ajT];exact Z3 (by simp) (by simp)
def Z4:PayOK bz (dG bz 0 (cn 600 1) 4):=by rw[Pa];exact Z3 (by simp) (by simp)
def ajR {s d n:Int}(hp:PayOK bz (dG bz 0 (cn s d) 4))(h:fP bz 0 (cn s d) 4 il=(n,0)):ah T 9 [aP bz,.int 0,cf (cn s d),.int 4,lz il] (.tup [.int n,.int 0]):=by
 have:=Jd bz Z6 IN 0 (cn s d) 4 (Z0 s d) il (by decide) hp
 rwa [h] at this
def ZY {s d n:Int}(hp:PayOK bz (dG bz 0 (cn s d) 4))(h:j3 bz 0 (cn s d) 4 il=(n,0))(hm:dW bz 0 (cn s d) 4=40):ah T 8 [aP bz,.int 0,cf (cn s d),.int 4,lz il] (.tup [.int n,.int 0]):=by
 have:=Py bz Z6 IN 0 (cn s d) 4 (Z0 s d) il (by decide) hp (Mg (by decide)) (.inr ⟨by omega,by omega,by omega⟩)
 rwa [h] at this
def aAQ:ah T 21 [lz ⟨0,[]⟩] (.int 1):=by
 have:=Pf ⟨0,[]⟩ (by decide)
 rwa [show kG ⟨0,[]⟩=1 by decide] at this
def aAM:ah T 12 [aP bz,.int 0,cf (cn 600 1),.int 4,.int 601] (ints [1]):=by
 have:=akm bz Z6 IN 0 (cn 600 1) 4 601 (Z0 600 1) (by decide) Z4
 rwa [Pa,show iZ bz [⟨0,0,0,1,0,1000,true⟩,⟨1,1,1,1,0,600,false⟩] 601=[1] by decide] at this
def aw3:ah T 5 [] (.bool true):=by
 refine zyw 1 ayv ?_;simp[XQ];refine⟨_,aAL,_,DI,_,aAN,_,DH 1000 0,_,DI,_,ajR ajX (IP 1000 0 Z1 ajZ),_,DH 1000 0,_,DI,_,ZY ajX aAR ajU,_,DH 1000 1,_,DI,_,ZY aAU aAS ajV,_,DH 600 1,_,DI,_,ajR Z4 (IP 600 1 Pa aj0),_,DH 600 1,_,DI,_,ZY Z4 aAT ajW,_,aAQ,?_⟩;simp;exact⟨_,DH 600 1,_,aAM,av8 [1] (by decide)⟩
def O2 {α:Type}{p:α->Bool}:∀{l:List α},(∀x,x∈l->p x=true)->l.takeWhile p=l
 |[],_=>rfl
 |a::l,h=>by
  rw[List.takeWhile_cons_of_pos (h a (by simp)),O2 λx hx=>h x (by simp[hx])]
structure ExtS (s:Sign) (f g:File):Prop where
 eq:g={f with signs:=f.signs++[s]}
 days:∀x,x∈f.signs->x.day<=s.day
 alters:∀a,a∈f.alters->a.at_<=(f.signs.length:Int)
 facts:∀x,x∈f.facts->0<=x.at_/\x.at_<(f.signs.length:Int)
 ne:0<f.signs.length
def ExtS.of {r:Realm}{s:Sign}{f g:File}(hf:PaperOK r f)(hg:PaperOK r g)(e:g={f with signs:=f.signs++[s]}):ExtS s f g:=by
 refine⟨e,λx hx=>?_,λa ha=>?_,λx hx=>?_,xO.2 hf.ne⟩
 .have h:=hg.sorted.signs;rw[e] at h;exact(Pq.1 h).2.2 x hx s (by simp)
 .obtain⟨i,hi,rfl⟩:=ew ha;have h1:=BO hf.alters i hi;have hs:f.alters.getD i default=f.alters[i]:=by simp[hi]
  unfold vG at h1;simp only[hs] at h1;generalize (if i=0 then(0:Int) else(f.alters.getD (i-1) default).at_)=L at h1;split at h1
  .cases h1
  rename_i a1;simp[wi] at a1;exact a1.2
 .obtain⟨i,hi,rfl⟩:=ew hx;have h1:=BO hf.facts i hi;have hs:f.facts.getD i default=f.facts[i]:=by simp[hi]
  unfold vO at h1;simp only[hs] at h1;split at h1
  .cases h1
  split at h1
  .cases h1
  rename_i a1 a2;simpa [aC] using a2
def ExtS.early {s:Sign}{f g:File}(h:ExtS s f g){day:Int}(hd:day<s.day):bh g day=bh f day:=by
 have hu:pv day (f.signs++[s])=pv day f.signs:=by
  unfold pv;rw[List.takeWhile_append];split
  .rename_i h1;rw[List.takeWhile_cons_of_neg (by simp;omega),um];exact(((I6 _).eq_of_length h1)).symm
  .rfl
 rw[h.eq];unfold bh;simp only[hu]
def ExtS.late {s:Sign}{f g:File}(h:ExtS s f g){day:Int}(hd:s.day<=day):ExtS s (bh f day) (bh g day):=by
 have hu:pv day f.signs=f.signs:=by
  unfold pv;refine O2 λx hx=>?_;have:=h.days x hx;simp;omega
 have S9:pv day (f.signs++[s])=f.signs++[s]:=by
  unfold pv;refine O2 λx hx=>?_;rcases dC.1 hx with hx|hx
  .have:=h.days x hx;simp;omega
  .obtain rfl:=vA.1 hx;simpa using hd
 have td:∀n,f.signs.length<=n->f.alters.filter (pH n)=f.alters:=λn hn=>aat.2 λa ha=>by
  have:=h.alters a ha;simp[pH];omega
 have yH:∀n,f.signs.length<=n->f.facts.filter (rA n)=f.facts:=λn hn=>aat.2 λa ha=>by
  have:=h.facts a ha;simp[rA,aC];omega
 have e1:bh f day={f with acts:=O9 day f.acts}:=by
  unfold bh;rw[hu,td _ (aX _),yH _ (aX _)]
 have e2:bh g day={f with signs:=f.signs++[s],acts:=O9 day f.acts}:=by
  rw[h.eq];unfold bh;simp only[S9];rw[td _ (by simp),yH _ (by simp)]
 rw[e1,e2];exact⟨rfl,h.days,h.alters,h.facts,h.ne⟩
def ExtS.noFacts {s:Sign}{f g:File}(h:ExtS s f g):ExtS s {f with facts:=[]} {g with facts:=[]}:=⟨by rw[h.eq],h.days,h.alters,(λx hx=>by cases hx),h.ne⟩
def ext_get {s:Sign}{f:File}{k:Int}(h0:0<=k)(h1:k<f.signs.length):(f.signs++[s]).getD k.toNat default=f.signs.getD k.toNat default:=by
 have:k.toNat<f.signs.length:=by omega
 simp[lZ,this]
def acd {s:Sign}{f:File}{k:Int}(h0:0<=k)(h1:k<f.signs.length):aC k (f.signs++[s]).length=aC k f.signs.length:=by
 simp[aC,h0,h1];omega
def aAx {s:Sign}{f:File}{r:Realm}(sign holder defence due day:Int)(h0:0<=sign)(h1:sign<f.signs.length)(h2:holder<f.signs.length)(hp:0<f.signs.length):
 jF r ⟨{f with signs:=f.signs++[s]},sign,holder,defence,due,day⟩=jF r ⟨f,sign,holder,defence,due,day⟩:=by
 have hc:q7 ⟨{f with signs:=f.signs++[s]},sign,holder,defence,due,day⟩=q7 ⟨f,sign,holder,defence,due,day⟩:=by
  unfold q7;simp only[acd h0 h1];have e1:decide (mj ⟨{f with signs:=f.signs++[s]},sign,holder,defence,due,day⟩<((f.signs++[s]).length:Int))=true:=by
   simp[mj];split<;>omega
  have e2:decide (mj ⟨f,sign,holder,defence,due,day⟩<(f.signs.length:Int))=true:=by
   simp[mj];split<;>omega
  rw[e1,e2]
 unfold jF;rw[hc];simp only[ext_get h0 h1];rfl
def avu {s:Sign}{f:File}{r:Realm}(forum sign holder defence due day:Int)(h0:0<=sign)(h1:sign<f.signs.length):
 jC r forum ⟨{f with signs:=f.signs++[s]},sign,holder,defence,due,day⟩=jC r forum ⟨f,sign,holder,defence,due,day⟩:=by
 have hs:eK {f with signs:=f.signs++[s]} sign=eK f sign:=ext_get h0 h1;unfold jC qZ mu;simp only[hs]
def ExtS.ask {s:Sign}{f g:File}(h:ExtS s f g)(r:Realm)(forum q sign holder defence due:Int){day:Int}(hd:s.day<=day)(h0:0<=sign)(h1:sign<f.signs.length)(h2:holder<f.signs.length):
 sP r forum q ⟨g,sign,holder,defence,due,day⟩=sP r forum q ⟨f,sign,holder,defence,due,day⟩:=by
 have hl:=h.late hd;have hu:(bh f day).signs.length=f.signs.length:=by
  show(pv day f.signs).length=_
  congr 1
  unfold pv;refine O2 λx hx=>?_;have:=h.days x hx;simp;omega
 have hF:jq r forum q ⟨g,sign,holder,defence,due,day⟩=jq r forum q ⟨f,sign,holder,defence,due,day⟩:=by
  unfold jq;have e1:ia ⟨g,sign,holder,defence,due,day⟩=⟨{bh f day with signs:=(bh f day).signs++[s]},sign,holder,defence,due,day⟩:=by
   unfold ia;simp only[hl.eq]
  have e2:ia ⟨f,sign,holder,defence,due,day⟩=⟨bh f day,sign,holder,defence,due,day⟩:=rfl;rw[e1,e2,aAx sign holder defence due day h0 (by omega) (by omega) (by omega),avu forum sign holder defence due day h0 (by omega)]
 unfold sP;rw[hF]
def ExtS.bill {s:Sign}{f g:File}(h:ExtS s f g)(r:Realm)(forum q:Int){day:Int}(hd:s.day<=day):km r forum q g day=km r forum q f day:=by
 have:=h.ne;exact h.noFacts.ask r forum q 0 (-1) (-1) (-1) hd (nO _) (show(0:Int)<(f.signs.length:Int) by omega) (show(-1:Int)<(f.signs.length:Int) by omega)
def ExtS.seen {s:Sign}{f g:File}(h:ExtS s f g)(hk:¬(s.kind=1/\f.bill.tenor.kind=1)):nA g=nA f:=by
 rw[h.eq];have e:lW {f with signs:=f.signs++[s]} (f.signs++[s]).length=lW f f.signs.length:=by
  unfold lW;by_cases ht:f.bill.tenor.kind=1
  .have:¬s.kind=1:=λe=>hk ⟨e,ht⟩;rw[if_pos ht,if_pos ht,Au,Au,DS];simp[this]
  .rw[if_neg ht,if_neg ht]
 unfold nA;simp only[e];rfl
def ExtS.mat {s:Sign}{f g:File}(h:ExtS s f g)(r:Realm)(forum:Int)(day:Int)(hk:¬(s.kind=1/\f.bill.tenor.kind=1)):dW r forum g day=dW r forum f day:=by
 have hb:g.bill=f.bill:=by rw[h.eq]
 unfold dW;rw[hb];by_cases hd:s.day<=day
 .have hl:=h.late hd;have n1:(bh f day).signs≠[]:=xO.1 hl.ne;have n2:(bh g day).signs≠[]:=by rw[hl.eq];simp
  rw[if_neg n1,if_neg n2,hl.seen hk,hl.bill r forum 6 hd]
 .rw[h.early (by omega)]
def ExtS.liable {s:Sign}{f g:File}(h:ExtS s f g)(r:Realm)(forum:Int){day:Int}(hd:s.day<=day)(hk:¬(s.kind=1/\f.bill.tenor.kind=1)):∃l,dG r forum g day=dG r forum f day++l:=by
 have hl:=h.late hd;have hF:(dz r forum f day).form=(dz r forum g day).form:=by
  show vn (km r forum 0 (bh f day) day)=vn (km r forum 0 (bh g day) day);rw[hl.bill r forum 0 hd]
 have hD:(dz r forum f day).due=(dz r forum g day).due:=by
  show dW r forum (bh f day) day=dW r forum (bh g day) day;rw[hl.mat r forum day hk]
 have he:∀k:Nat,k<(bh f day).signs.length->l6 (dz r forum g day) k=l6 (dz r forum f day) k:=by
  intro k Sc;have hs:∀q:Int,j7 (dz r forum g day) q k=j7 (dz r forum f day) q k:=by
   intro q;unfold j7;rw[<-hD];show vn (sP r forum q ⟨bh g day,k,k,-1,(dz r forum f day).due,day⟩)=vn (sP r forum q ⟨bh f day,k,k,-1,(dz r forum f day).due,day⟩);rw[hl.ask r forum q k k (-1) _ hd (by omega) (by omega) (by omega)]
  have ha:(dz r forum g day).file.alters=(dz r forum f day).file.alters:=by
   show(bh g day).alters=(bh f day).alters;rw[hl.eq]
  have hb:(dz r forum g day).file.bill=(dz r forum f day).file.bill:=by
   show(bh g day).bill=(bh f day).bill;rw[hl.eq]
  have ht:po (dz r forum g day) k=po (dz r forum f day) k:=by
   unfold po pI nH wI;rw[ha,hb,hs]
  have hg:(dz r forum g day).file.signs.getD (k:Int).toNat default=(dz r forum f day).file.signs.getD (k:Int).toNat default:=by
   show(bh g day).signs.getD _ default=(bh f day).signs.getD _ default;rw[hl.eq];exact ext_get (by omega) (by omega)
  have cA:vm (dz r forum g day).file k (dz r forum g day).day=vm (dz r forum f day).file k (dz r forum f day).day:=by
   show vm (bh g day) k day=vm (bh f day) k day;unfold vm;rw[hl.eq];simp only[acd (s:=s) (f:=bh f day) (k:=(k:Int)) (by omega) (by omega)]
  unfold l6;rw[hs,hs,ht,hg,cA,<-hF]
 refine⟨[l6 (dz r forum g day) ((bh f day).signs.length:Nat)].filter Mt,?_⟩;unfold dG rv;have hlen:(dz r forum g day).file.signs.length=(bh f day).signs.length+1:=by
  show(bh g day).signs.length=_;rw[hl.eq];simp
 rw[hlen,I5,nR,DS]
 congr 2
 exact sL λk hk=>he k (fu.1 hk)
def ExtS.worth {s:Sign}{f g:File}(h:ExtS s f g)(r:Realm)(forum day:Int)(q:Quote)(hk:¬(s.kind=1/\f.bill.tenor.kind=1)):(fP r forum f day q).1<=(fP r forum g day q).1/\(fP r forum f day q).2=(fP r forum g day q).2:=by
 by_cases hd:s.day<=day
 .unfold fP;by_cases hc:kG q≠0\/¬wF r forum
  .rw[if_pos hc,if_pos hc];exact⟨nO _,rfl⟩
  .rw[if_neg hc,if_neg hc];have hQ:=(Hb (Aj λe=>hc (.inl e))).2.2;obtain⟨l,hl⟩:=h.liable r forum hd hk;refine⟨aAH hQ λe he=>⟨e,?_,nO _,rfl⟩,rfl⟩;rw[hl];exact iT _ he
 .have hL:dG r forum g day=dG r forum f day:=by
   unfold dG rv dz;rw[h.early (by omega)]
  unfold fP;rw[hL];exact⟨nO _,rfl⟩
def ExtS.price {s:Sign}{f g:File}(h:ExtS s f g)(r:Realm)(forum day:Int)(q:Quote)(hk:¬(s.kind=1/\f.bill.tenor.kind=1)):(j3 r forum f day q).1<=(j3 r forum g day q).1/\(j3 r forum f day q).2=(j3 r forum g day q).2:=by
 have hw:=h.worth r forum day q hk;unfold j3;rw[<-hw.2,h.mat r forum day hk];rcases ajN r forum f day q with e|⟨hq,ho,e⟩
 .rw[e];simp
 .obtain⟨p0,p1,hQ⟩:=Hb hq;have h0:=ajP (r:=r) (l:=dG r forum f day) hQ;rw[e] at hw ⊢;simp only at hw ⊢;rw[if_neg (by simp),if_neg (by simp)];exact avJ h0 p0 hw.1
def ExtS.before {s:Sign}{f g:File}(h:ExtS s f g)(r:Realm)(forum:Int){day:Int}(hd:day<s.day)(q:Quote):fP r forum g day q=fP r forum f day q/\j3 r forum g day q=j3 r forum f day q:=by
 have hL:dG r forum g day=dG r forum f day:=by
  unfold dG rv dz;rw[h.early hd]
 have hw:fP r forum g day q=fP r forum f day q:=by
  unfold fP;rw[hL]
 have hb:g.bill=f.bill:=by rw[h.eq]
 have hm:dW r forum g day=dW r forum f day:=by
  unfold dW;rw[hb,h.early hd]
 refine⟨hw,?_⟩;unfold j3;rw[hw,hm]
def KU {f:Nat}(hf:ext f=some λ_ ds=>ly ds)(ht:tab f=none)(l:List D)(h:l.length<=4294967296):ah T f [.list l] (.list l):=by
 refine .of_ext hf ⟨0,λ_ _=>?_⟩;show(if l.length<=4294967296 then some (D.list l) else none)=_;rw[if_pos h]
def avP {f:File}{s:Sign}(hf:f.OK)(hs:s.OK)(hl:f.signs.length<=1000):File.OK {f with signs:=f.signs++[s]}:=by
 have e:maxLen=9223372036854775807:=rfl;refine⟨hf.1,⟨by simp;omega,λy hy=>?_⟩,hf.2.2⟩;rcases dC.1 hy with hy|hy
 .exact hf.2.1.2 y hy
 .obtain rfl:=vA.1 hy;exact hs
def axq (a0 a1 a2 a3 a4 a5 a6 a7 a8 a9 mO mP a12 mQ mR qV qW a17 qX n:D):dg (dg (dg (dg [a0,a1,a2,a3,a4,a5,a6,a7,a8,a9,mO,mP,a12,mQ,mR,qV,qW,a17,qX] 15 [n]) 16 [n]) 17 [n]) 18 [n]=[a0,a1,a2,a3,a4,a5,a6,a7,a8,a9,mO,mP,a12,mQ,mR,n,n,n,n]:=rfl
def aku (r:Realm)(hs:Small r)(f:File)(vS:f.OK)(hl:FewS f)(s:Sign)(SV:s.OK):∃d,ah T 7 [aP r,cf f,ix s] d/\
 ((∃x,∃n:Int,d=.tup [x,.int n]/\n≠0)\/(d=.tup [cf {f with signs:=f.signs++[s]},.int 0]/\PaperOK r {f with signs:=f.signs++[s]})):=by
 obtain⟨h1,h2,h3,h4⟩:=hl;refine ah.ex_of_tree rfl akW ayE ?_;simp[XZ];refine⟨_,KU rfl rfl (f.signs.map ix) (by simp;omega),?_⟩;simp;refine⟨by omega,_,KU rfl rfl (f.alters.map pR) (by simp;omega),_,KU rfl rfl (f.acts.map jO) (by simp;omega),_,KU rfl rfl (f.facts.map sW) (by simp;omega),?_⟩;obtain⟨d,hd,e,rfl,he⟩:=ahx r hs {f with signs:=f.signs++[s]} (avP vS SV h1);simp[axq];have e1:D.list (List.map ix f.signs++[ix s])=signs (f.signs++[s]):=by simp[signs]
 rw[e1];refine⟨_,hd,?_⟩;by_cases e0:e=0
 .rw[if_pos (by simpa using e0)];exact .inr ⟨rfl,he.1 e0⟩
 .rw[if_neg (by simpa using e0)];exact .inl ⟨_,_,⟨rfl,rfl⟩,e0⟩
def akt (r:Realm)(hr:r.OK)(forum:Int)(f:File)(vS:f.OK)(day:Int)(uO:ba day)(q:Quote)(SO:q.OK)(s:Sign)(SV:s.OK):
 ah T 3 [aP r,.int forum,cf f,.int day,lz q,ix s] (.bool true):=by
 refine zyw 0 ayq ?_;simp[XL];obtain⟨d,hd,b,rfl,hb⟩:=ald r hr f vS q;refine⟨_,aw3,_,hd,?_⟩;cases b
 .simp
 obtain⟨uV,hg,hP⟩:=hb rfl;have G:=apf hr hg;have jR:iw r=0:=by simp[Fg] at hg;exact hg.2
 have L5:q.fails.length<=4294967296:=by omega
 obtain⟨d,hd,L4⟩:=aku r G.rightD.small f vS G.few s SV;simp;refine⟨_,hd,?_⟩;rcases L4 with⟨x,n,rfl,hn⟩|⟨rfl,Lt⟩
 .simp[hn]
 by_cases hk:s.kind=1/\f.bill.tenor.kind=1
 .simp[hk]
 have hE:=ExtS.of hP Lt rfl;obtain⟨⟨f1,f2⟩,f3,f4⟩:=Lt.full;have G2:Good r {f with signs:=f.signs++[s]}:=⟨G.right,G.rightD,⟨by omega,by omega,by omega,by omega⟩⟩
 have we:=ahD G jR hP forum day;have eO:=ahD G2 jR Lt forum day;have bu:=abF G.rightD hP forum day;have dD:=abF G.rightD Lt forum day;have p1:=Py r G.right G.rightD forum f day G.few q L5 we uO bu;have p2:=Py r G.right G.rightD forum _ day G2.few q L5 eO uO dD;have w1:=Jd r G.right G.rightD forum f day G.few q L5 we;have w2:=Jd r G.right G.rightD forum _ day G2.few q L5 eO;obtain⟨m1,m2⟩:=hE.price r forum day q hk;obtain⟨n1,n2⟩:=hE.worth r forum day q hk;have aqc:=λh=>hE.before r forum (day:=day) h q;generalize ({f with signs:=f.signs++[s]}:File)=g at*;simp[hk];intro _;refine⟨_,p1,_,p2,_,w1,_,w2,?_⟩;simp[m2,n2,m1,n1];intro h;obtain⟨h1,h2⟩:=aqc h;simp[h1,h2]
end Rm
