/-
  Shared texts of this claim.
-/
import Derived.Test.YtodhjdbleiakeaaGreatDoorKAQ
set_option linter.unusedSimpArgs false
set_option linter.unusedVariables false
namespace Rm
open Go Go.Proofs Cx
theorem adt {α:Type}(key:α→Int)(l:List α)(h:∀i (h1:i+1<l.length),key (l[i]'(by omega))≤key l[i+1]):l.Pairwise fun a b=>key a≤key b:=by
 rw[List.pairwise_iff_getElem];intro i j hi hj cG;obtain⟨d,rfl⟩:∃d,j=i+1+d:=⟨j-i-1,by omega⟩
 clear cG
 induction d with
 |zero=>exact h i hj
 |succ d ih=>exact Int.le_trans (ih (by omega)) (h (i+1+d) hj)
structure Sorted (f:File):Prop where
 signs:f.signs.Pairwise fun a b=>a.day≤b.day
 acts:f.acts.Pairwise fun a b=>a.day≤b.day
 sday:∀s,s∈f.signs→0≤s.day
 aday:∀a,a∈f.acts→0≤a.day
structure SignOK (r:Realm) (f:File) (i:Nat) (s:Sign):Prop where
 part:0≤s.part∧s.part≤f.bill.parts-1
 who:0≤s.who∧s.who<r.firms.length
 city:0≤s.city∧s.city<r.cities.length
 day:j8 f i≤s.day∧s.day≤100000
 fits:AB r f i=true
 once:DG f i s=false
theorem PaperOK.sign {r:Realm}{f:File}(h:PaperOK r f)(i:Nat)(hi:i<f.signs.length):SignOK r f i f.signs[i]:=by
 have h1:=M8 h.signs i hi;have hs:f.signs.getD i default=f.signs[i]:=by simp[hi]
 unfold yg at h1;simp only[hs] at h1;split at h1
 ·cases h1
 rename_i a1;split at h1
 ·cases h1
 rename_i a2;split at h1
 ·cases h1
 rename_i a3;split at h1
 ·cases h1
 rename_i a4;split at h1
 ·cases h1
 rename_i a5;simp[wi,aw] at a1 a2 a3;exact⟨⟨by omega,by omega⟩,⟨by omega,by omega⟩,⟨by omega,by omega⟩,⟨by omega,by omega⟩,by simpa using a4,by simpa using a5⟩
structure yy (r:Realm) (f:File) (i:Nat) (a:Act):Prop where
 part:0≤a.part∧a.part≤f.bill.parts-1
 city:0≤a.city∧a.city<r.cities.length
 kind:0≤a.kind∧a.kind≤9
 fits:q8 r f a=true
 day:wZ f i a≤a.day∧a.day≤100000
theorem PaperOK.act {r:Realm}{f:File}(h:PaperOK r f)(i:Nat)(hi:i<f.acts.length):yy r f i f.acts[i]:=by
 have h1:=M8 h.acts i hi;have hs:f.acts.getD i default=f.acts[i]:=by simp[hi]
 unfold pZ at h1;simp only[hs] at h1;split at h1
 ·cases h1
 rename_i a1;split at h1
 ·cases h1
 rename_i a2;split at h1
 ·cases h1
 rename_i a3;split at h1
 ·cases h1
 rename_i a4;simp[wi,aw] at a1 a2 a4;exact⟨⟨by omega,by omega⟩,⟨by omega,by omega⟩,⟨by omega,by omega⟩,by simpa using a3,by omega⟩
theorem YU (f:File)(i:Nat)(a:Act):f.bill.day≤wZ f i a∧(i≠0→(f.acts.getD (i-1) default).day≤wZ f i a):=by
 unfold wZ;refine⟨?_,fun h=>?_⟩
 ·simp only;split<;>split<;>omega
 ·simp only[if_neg h];omega
theorem PaperOK.day {r:Realm}{f:File}(h:PaperOK r f):0≤f.bill.day∧f.bill.day≤100000:=by
 have:=h.bill.range;unfold vc at this;omega
theorem WM {r:Realm}{f:File}(h:PaperOK r f):∀i,i<f.signs.length→0≤j8 f i
 |0,_=>by simp[j8];exact h.day.1
 |i+1,hi=>by
  have h1:=(h.sign i (by omega)).day.1;have h2:=WM h i (by omega);have e:j8 f (i+1)=f.signs[i].day:=by simp[j8,show i<f.signs.length by omega]
  omega
theorem PaperOK.sorted {r:Realm}{f:File}(h:PaperOK r f):Sorted f:=by
 refine⟨adt (·.day) f.signs fun i hi=>?_,adt (·.day) f.acts fun i hi=>?_,fun s hs=>?_,fun a ha=>?_⟩
 ·have h1:=(h.sign (i+1) hi).day.1;have e:j8 f (i+1)=f.signs[i].day:=by simp[j8,show i<f.signs.length by omega]
  rw[e] at h1;exact h1
 ·have h1:=(h.act (i+1) hi).day.1;have h2:=(YU f (i+1) f.acts[i+1]).2 (by omega);have e:f.acts.getD (i+1-1) default=f.acts[i]:=by simp[show i<f.acts.length by omega]
  rw[e] at h2;exact Int.le_trans h2 h1
 ·obtain⟨i,hi,rfl⟩:=List.getElem_of_mem hs;exact Int.le_trans (WM h i hi) (h.sign i hi).day.1
 ·obtain⟨i,hi,rfl⟩:=List.getElem_of_mem ha;have h1:=(h.act i hi).day.1;have h2:=(YU f i f.acts[i]).1;have:=h.day;omega
theorem Sorted.sign_there {f:File}(h:Sorted f){day:Int}{i:Nat}(hi:i<f.signs.length)(hd:f.signs[i].day≤day):i<(aI f day).signs.length∧∀h2:i<(aI f day).signs.length,(aI f day).signs[i]=f.signs[i]:=by
 obtain⟨m,hm,e,aP,dy⟩:=vu (fun s:Sign=>decide (s.day≤day)) f.signs;have e':(aI f day).signs=f.signs.take m:=e;have jf:i<m:=by
  refine Classical.byContradiction fun hc=>?_;have ka:m<f.signs.length:=by omega
  have h1:=dy ka;have h2:f.signs[m].day≤f.signs[i].day:=by
   by_cases e2:m=i
   ·subst e2;exact Int.le_refl _
   ·exact List.pairwise_iff_getElem.1 h.signs m i ka hi (by omega)
  simp at h1;omega
 refine⟨by rw[e',List.length_take];omega,fun h2=>?_⟩;simp[e']
end Rm
namespace Rm
open Go Go.Proofs Cx
theorem UR {α:Type}(key:α→Int){x y:Int}(cK:x≤y):∀{l:List α},l.Pairwise (fun a b=>key a≤key b)→
 ∃m,l.takeWhile (fun a=>decide (key a≤y))=l.takeWhile (fun a=>decide (key a≤x))++m∧(∀a,a∈m→x<key a)∧∀a,a∈m→a∈l
 |[],_=>⟨[],rfl,fun _ h=>(by cases h),fun _ h=>(by cases h)⟩
 |a::l,hp=>by
  rw[List.pairwise_cons] at hp;by_cases h:key a≤x
  ·obtain⟨m,h1,h2,h3⟩:=UR key cK hp.2;refine⟨m,?_,h2,fun b hb=>by simp[h3 b hb]⟩;rw[List.takeWhile_cons,List.takeWhile_cons,if_pos (by simp;omega),if_pos (by simp;omega),h1];rfl
  ·refine⟨(a::l).takeWhile (fun a=>decide (key a≤y)),?_,fun b hb=>?_,fun b hb=>?_⟩
   ·rw[List.takeWhile_cons (p:=fun a=>decide (key a≤x)),if_neg (by simp;omega)];rfl
   ·have hm:=(List.takeWhile_sublist _).subset hb;rcases List.mem_cons.1 hm with rfl|hm
    ·omega
    ·have:=hp.1 b hm;omega
   ·exact(List.takeWhile_sublist _).subset hb
theorem Sorted.acts_app {f:File}(h:Sorted f){x y:Int}(cK:x≤y):∃m,(aI f y).acts=(aI f x).acts++m∧(∀a,a∈m→x<a.day)∧∀a,a∈m→a∈f.acts:=UR (fun a:Act=>a.day) cK h.acts
theorem Sorted.signs_app {f:File}(h:Sorted f){x y:Int}(cK:x≤y):∃m,(aI f y).signs=(aI f x).signs++m∧(∀a,a∈m→x<a.day)∧∀a,a∈m→a∈f.signs:=UR (fun a:Sign=>a.day) cK h.signs
theorem yO {f:File}{x:Int}{a:Act}(h:a∈(aI f x).acts):a.day≤x∧a∈f.acts:=⟨by simpa using afw (p:=fun s:Act=>decide (s.day≤x)) (l:=f.acts) h,(List.takeWhile_sublist (fun s:Act=>decide (s.day≤x))).subset h⟩
theorem ah7 {f:File}{x:Int}{a:Sign}(h:a∈(aI f x).signs):a.day≤x∧a∈f.signs:=⟨by simpa using afw (p:=fun s:Sign=>decide (s.day≤x)) (l:=f.signs) h,(List.takeWhile_sublist (fun s:Sign=>decide (s.day≤x))).subset h⟩
theorem US {α:Type}(key:α→Int){x y:Int}(cK:x≤y):∀(l:List α),(l.takeWhile (fun a=>decide (key a≤y))).takeWhile (fun a=>decide (key a≤x))=l.takeWhile (fun a=>decide (key a≤x))
 |[]=>rfl
 |a::l=>by
  by_cases h:key a≤x
  ·have h2:key a≤y:=by omega
   simp only[List.takeWhile_cons,h,h2,decide_true,if_true];rw[US key cK l]
  ·by_cases h2:key a≤y
   ·simp[List.takeWhile_cons,h,h2]
   ·simp[List.takeWhile_cons,h,h2]
theorem afx {α:Type}(key:α→Int){x y:Int}(cK:x≤y):∀(l:List α),(l.takeWhile (fun a=>decide (key a≤x))).length≤(l.takeWhile (fun a=>decide (key a≤y))).length
 |[]=>by simp
 |a::l=>by
  by_cases h:key a≤x
  ·have h2:key a≤y:=by omega
   have:=afx key cK l;simp[List.takeWhile_cons,h,h2];omega
  ·simp[List.takeWhile_cons,h]
theorem yP (f:File){x y:Int}(cK:x≤y):aI (aI f y) x=aI f x:=by
 have h1:gF x (gF y f.signs)=gF x f.signs:=US (fun a:Sign=>a.day) cK f.signs;have h2:yp x (yp y f.acts)=yp x f.acts:=US (fun a:Act=>a.day) cK f.acts;have hl:(gF x f.signs).length≤(gF y f.signs).length:=afx (fun a:Sign=>a.day) cK f.signs;unfold aI;simp only[h1,h2,List.filter_filter]
 congr 1
 ·apply List.filter_congr;intro a _;simp[fV];omega
 ·apply List.filter_congr;intro a _;simp[eP,aw];omega
theorem WH {α:Type}(p:α→Bool)(l m:List α):(l++m).find? p=(l.find? p).or (m.find? p):=List.find?_append
def vE (x:Int)(a b:Int):Prop:=(a≠-1∧a≤x∧b=a)∨(a=-1∧(b=-1∨x<b))
theorem Nb {f:File}(h:Sorted f){x y:Int}(cK:x≤y)(b:Bill)(kind fr:Int):vE x (fY b (aI f x).acts kind fr) (fY b (aI f y).acts kind fr):=by
 obtain⟨m,h1,h2,h3⟩:=h.acts_app cK;unfold fY;rw[h1,WH];cases e:(aI f x).acts.find? (ql b kind fr) with
 |some a=>
  left;have hm:=yO (List.mem_of_find?_eq_some e);have:=h.aday a hm.2;simp;omega
 |none=>
  right;refine⟨rfl,?_⟩;cases e2:m.find? (ql b kind fr) with
  |some a=>
   right;exact h2 a (List.mem_of_find?_eq_some e2)
  |none=>exact .inl rfl
theorem WL {f:File}(h:Sorted f)(x:Int)(b:Bill)(kind fr:Int)(hn:fY b (aI f x).acts kind fr≠-1):fr≤fY b (aI f x).acts kind fr∧0≤fY b (aI f x).acts kind fr∧fY b (aI f x).acts kind fr≤x:=by
 unfold fY at hn ⊢;cases e:(aI f x).acts.find? (ql b kind fr) with
 |some a=>
  have hm:=yO (List.mem_of_find?_eq_some e);have h0:=h.aday a hm.2;have hp:=List.find?_some e;simp[ql] at hp;simp;omega
 |none=>rw[e] at hn;exact absurd rfl hn
theorem SA {x y on on':Int}(cK:x≤y)(h:vE x on on')(t:Bool×Int):de (mi x on t) (mi y on' t):=by
 unfold mi de vE at*
 repeat' split
 all_goals omega
theorem Pv:∀(l:List Int),l≠[]→dY l∈l
 |a::l,_=>by
  induction l generalizing a with
  |nil=>simp[dY]
  |cons b l ih=>
   have:=ih (min a b) (by simp);have e:dY (a::b::l)=dY (min a b::l):=by simp[dY]
   rw[e];rcases List.mem_cons.1 this with h|h
   ·rw[h];rcases Int.le_total a b with hh|hh
    ·rw[Int.min_eq_left hh];simp
    ·rw[Int.min_eq_right hh];simp
   ·simp[h]
theorem ZF:∀(l:List Int) (a:Int),a∈l→dY l≤a
 |b::l,a,h=>by
  induction l generalizing b with
  |nil=>simp at h;subst h;simp[dY]
  |cons c l ih=>
   have e:dY (b::c::l)=dY (min b c::l):=by simp[dY]
   have h2:dY (min b c::l)≤min b c:=ZG _ _;rw[e];rcases List.mem_cons.1 h with h|h
   ·omega
   rcases List.mem_cons.1 h with h|h
   ·omega
   ·exact ih (min b c) (by simp[h])
where
 ZG:∀(l:List Int) (b:Int),dY (b::l)≤b
 |[],b=>by simp[dY]
 |c::l,b=>by
  have e:dY (b::c::l)=dY (min b c::l):=by simp[dY]
  rw[e];have:=ZG l (min b c);omega
theorem au9 {l m:List Int}{x:Int}(hl:∀a,a∈l→0≤a∧a≤x)(hs:∀a,a∈l→a∈m)(hm:∀a,a∈m→a∈l∨x<a):vE x (dY l) (dY m):=by
 by_cases aD:l=[]
 ·subst aD;right;refine⟨rfl,?_⟩;by_cases ka:m=[]
  ·subst ka;exact .inl rfl
  ·rcases hm _ (Pv m ka) with h|h
   ·cases h
   ·exact .inr h
 ·left;have bA:=Pv l aD;have hb:=hl _ bA;have arZ:m≠[]:=fun e=>by have:=hs _ bA;rw[e] at this;cases this
  refine⟨by omega,by omega,?_⟩;have hle:=ZF m _ (hs _ bA);rcases hm _ (Pv m arZ) with h|h
  ·have:=ZF l _ h;omega
  ·omega
theorem aeX {f:File}(h:Sorted f){x y:Int}(cK:x≤y):vE x (hZ (aI f x)) (hZ (aI f y)):=by
 obtain⟨m,h1,h2,h3⟩:=h.acts_app cK;obtain⟨k,g1,g2,g3⟩:=h.signs_app cK;have hb:ld (aI f y)=ld (aI f x):=rfl;have wH:vE x (dY (ia (aI f x) (aI f x).signs.length++gp (aI f x) (aI f x).acts.length)) (dY (ia (aI f y) (aI f y).signs.length++gp (aI f y) (aI f y).acts.length)):=by
  have ek:(aI f y).bill=(aI f x).bill:=rfl;unfold ia gp;rw[ek,List.take_length,List.take_length,List.take_length,List.take_length,h1,g1];by_cases hk:(aI f x).bill.tenor.kind=1
  ·rw[if_pos hk,if_pos hk,if_pos hk,if_pos hk];refine au9 (fun a ha=>?_) (fun a ha=>?_) (fun a ha=>?_)
   ·rcases List.mem_append.1 ha with ha|ha
    ·obtain⟨s,hs,rfl⟩:=List.mem_map.1 ha;have:=ah7 (List.mem_filter.1 hs).1;exact⟨h.sday s this.2,this.1⟩
    ·obtain⟨s,hs,rfl⟩:=List.mem_map.1 ha;have:=yO (List.mem_filter.1 hs).1;exact⟨h.aday s this.2,this.1⟩
   ·simp only[List.filter_append,List.map_append,List.mem_append] at ha ⊢;rcases ha with ha|ha
    ·exact .inl (.inl ha)
    ·exact .inr (.inl ha)
   ·simp only[List.filter_append,List.map_append,List.mem_append] at ha ⊢;rcases ha with(ha|ha)|(ha|ha)
    ·exact .inl (.inl ha)
    ·obtain⟨s,hs,rfl⟩:=List.mem_map.1 ha;exact .inr (g2 s (List.mem_filter.1 hs).1)
    ·exact .inl (.inr ha)
    ·obtain⟨s,hs,rfl⟩:=List.mem_map.1 ha;exact .inr (h2 s (List.mem_filter.1 hs).1)
  ·rw[if_neg hk,if_neg hk,if_neg hk,if_neg hk];exact .inr ⟨rfl,.inl rfl⟩
 unfold hZ;rw[hb,h1,WH];cases e:(aI f x).acts.find? (ld (aI f x)) with
 |some a=>
  left;have hm:=yO (List.mem_of_find?_eq_some e);have:=h.aday a hm.2;simp;omega
 |none=>
  cases e2:m.find? (ld (aI f x)) with
  |some a=>
   have hp:=List.find?_some e2;have hk:(aI f x).bill.tenor.kind=0:=by simp[ld] at hp;exact hp.1
   right;have hn:dY (ia (aI f x) (aI f x).signs.length++gp (aI f x) (aI f x).acts.length)=-1:=by
        unfold ia gp;rw[if_neg (by rw[hk];decide),if_neg (by rw[hk];decide)];rfl
   exact⟨hn,.inr (h2 a (List.mem_of_find?_eq_some e2))⟩
  |none=>
   rw[←h1];exact wH
end Rm
namespace Rm
open Go Go.Proofs Cx
def DI (fr to:Int)(u:Usance):Bool:=decide (u.fr=fr)&&decide (u.to=to)
def DH (l:List Usance)(fr to:Int):Int×Int:=match l.find? (DI fr to) with|some u=>(u.days,0)|none=>(0,4)
theorem af5 (r:Realm)(fr to:Int)(hl:r.usances.length≤100000):ak T Hh [aZ r,.int fr,.int to] (.tup [.int (DH r.usances fr to).1,.int (DH r.usances fr to).2]):=by
 refine .of_tree rfl VI afq ?_;simp[Ly];unfold DH;refine aO.scan r.usances.length (fun k=>DI fr to (r.usances.getD k default)=false) (fun k=>[.int 0,.int 0,.int k]) (fun _=>[]) ?_ (fun k hk hj aA=>?_) (fun k hk hj aA=>?_) (fun hj=>?_)
 ·simp
 ·have hw:=bl hk (by omega);have hn:¬(r.usances[k].fr=fr∧r.usances[k].to=to):=by simpa [DI,hk] using aA
  simp[xV,sy,hk,hw,hn]
 ·have gy:=tD hk (by simpa [hk] using aA) (fun j bB=>by have:=hj j bB;simpa [show j<r.usances.length by omega] using this);have hc:r.usances[k].fr=fr∧r.usances[k].to=to:=by simpa [DI,hk] using aA
  rw[gy];simp[xV,sy,hk,hc]
 ·have gy:=v3 (l:=r.usances) (p:=DI fr to) (fun j bB=>by have:=hj j bB;simpa [bB] using this);rw[gy];simp[xV,sy]
noncomputable def DW (d:Int)(t:Tenor):Int×Int:=((yK d t).choose,(yK d t).choose_spec.choose)
theorem Vq (d:Int)(t:Tenor):ak T PO [.int d,mz t] (.tup [.int (DW d t).1,.int (DW d t).2]):=(yK d t).choose_spec.choose_spec
noncomputable def tj (l:List Usance)(b:Bill)(seen:Int):Int×Int:=
 if b.tenor.kind=0 then(seen,0) else if b.tenor.kind=1 then DW seen b.tenor else if b.tenor.kind=2 then DW b.day b.tenor
 else if b.tenor.kind=4 then(IntKind.i64.wrap (b.day+(DH l b.city b.pay).1),(DH l b.city b.pay).2) else(b.tenor.n,0)
theorem aiR (r:Realm)(hr:RightD r)(b:Bill)(seen:Int):ak T xc [aZ r,dg b,.int seen] (.tup [.int (tj r.usances b seen).1,.int (tj r.usances b seen).2]):=by
 have OR:D.agg [D.int b.tenor.kind,D.int b.tenor.n,D.int b.tenor.unit]=mz b.tenor:=rfl;refine .of_tree rfl th vq ?_;unfold tj;by_cases h0:b.tenor.kind=0
 ·simp[mj,h0]
 by_cases h1:b.tenor.kind=1
 ·have h:=Vq seen b.tenor;have cg:(b.tenor.kind=1)=True:=eq_true h1;simp[mj,h0,cg];exact⟨_,h,by simp⟩
 by_cases h2:b.tenor.kind=2
 ·have h:=Vq b.day b.tenor;have jc:(b.tenor.kind=2)=True:=eq_true h2;simp[mj,h0,h1,jc];exact⟨_,h,by simp⟩
 by_cases h4:b.tenor.kind=4
 ·have h:=af5 r b.city b.pay (by have:=hr.small.us;omega);have lJ:(b.tenor.kind=4)=True:=eq_true h4;simp[mj,h0,h1,h2,lJ];exact⟨_,h,by simp⟩
 ·simp[mj,h0,h1,h2,h4]
def G1 (r:Realm)(pay bL:Int)(x:Int×Int):Int×Int:=
 if x.2≠0 then(0,x.2) else if cI x.1=false∨100000<IntKind.i64.wrap (x.1+bL) then(0,3) else lb r pay (IntKind.i64.wrap (x.1+bL))
noncomputable def qa (r:Realm)(b:Bill)(seen bL:Int):Int×Int:=
 if gJ r≠0∨aw b.city r.cities.length=false∨aw b.pay r.cities.length=false∨cI b.day=false then(0,1)
 else if((b.tenor.kind<0∨5≤b.tenor.kind)∨b.tenor.unit<0)∨2≤b.tenor.unit then(0,1)
 else if((¬seen=-1∧cI seen=false)∨bL<0)∨20000<bL then(0,1)
 else if sI b.tenor=true∧seen=-1 then(0,4)
 else G1 r b.pay bL (tj r.usances b seen)
theorem afR (r:Realm)(hr:RightD r)(b:Bill)(seen bL:Int):ak T BT [aZ r,dg b,.int seen,.int bL] (.tup [.int (qa r b seen bL).1,.int (qa r b seen bL).2]):=by
 have OR:D.agg [D.int b.tenor.kind,D.int b.tenor.n,D.int b.tenor.unit]=mz b.tenor:=rfl;have jE:=KY r hr.small;obtain⟨G,hG⟩:∃G,G=qa r b seen bL:=⟨_,rfl⟩
 rw[←hG];unfold qa at hG;refine .of_tree rfl LV Uw ?_;simp[DE];refine⟨_,jE,?_⟩;by_cases h0:gJ r=0
 case neg=>simp[h0] at hG ⊢;simp[hG]
 simp[h0] at hG ⊢;refine⟨_,wW r b.city,?_⟩;cases h1:aw b.city r.cities.length
 ·simp[h1] at hG ⊢;simp[hG]
 simp[h1] at hG ⊢;refine⟨_,wW r b.pay,?_⟩;cases h2:aw b.pay r.cities.length
 ·simp[h2] at hG ⊢;simp[hG]
 simp[h2] at hG ⊢;refine⟨_,rW b.day,?_⟩;cases h3:cI b.day
 ·simp[h3] at hG ⊢;simp[hG]
 simp[h3] at hG ⊢;have hp:0≤b.pay∧b.pay<r.cities.length:=by simpa [aw] using h2
 by_cases h4:((b.tenor.kind<0∨5≤b.tenor.kind)∨b.tenor.unit<0)∨2≤b.tenor.unit
 ·rw[if_pos h4] at hG ⊢;simp[hG]
 rw[if_neg h4] at hG ⊢;have fin:G=G1 r b.pay bL (tj r.usances b seen)→0≤bL→bL≤20000→∃d,ak T xc [aZ r,dg b,D.int seen] d∧
  if(d.tget 1).i=0 then ∃d1,ak T Hi [d.tget 0] d1∧(if d1.b=false∨100000<IntKind.i64.wrap ((d.tget 0).i+bL) then 0=G.1∧3=G.2 else
        ∃d2,ak T Hj [aZ r,D.int b.pay,D.int (IntKind.i64.wrap ((d.tget 0).i+bL))] d2∧d2.tget 0=D.int G.1∧d2.tget 1=D.int G.2)
  else 0=G.1∧d.tget 1=D.int G.2:=by
  intro hG tT lN;refine⟨_,aiR r hr b seen,?_⟩;unfold G1 at hG;generalize tj r.usances b seen=B at*;obtain⟨n,e⟩:=B;by_cases he:e=0
  ·simp[he] at hG ⊢;refine⟨_,rW n,?_⟩;cases hd:cI n
   ·simp[hd] at hG ⊢;simp[hG]
   have cT:0≤n∧n≤100000:=by simpa [cI] using hd
   have hw:IntKind.i64.wrap (n+bL)=n+bL:=bD (by omega);simp[hd,hw] at hG ⊢;by_cases hle:100000<n+bL
   ·rw[if_pos hle] at hG ⊢;simp[hG]
   ·rw[if_neg hle] at hG ⊢;refine⟨_,Sl r hr.halts b.pay (n+bL) hp hr.cities (by omega) (by omega),?_⟩;simp[hG]
  ·simp[he] at hG ⊢;simp[hG]
 by_cases hs:seen=-1
 ·simp[hs] at fin hG ⊢;by_cases h5:bL<0∨20000<bL
  ·rw[if_pos h5] at hG ⊢;simp[hG]
  rw[if_neg h5] at hG ⊢;refine⟨_,yB b.tenor,?_⟩;cases h6:sI b.tenor
  ·simp[h6] at hG ⊢;exact fin hG (by omega) (by omega)
  ·simp[h6] at hG ⊢;simp[hG]
 ·simp[hs] at fin hG ⊢;refine⟨_,rW seen,?_⟩;cases hk:cI seen
  ·simp[hk] at hG ⊢;simp[hG]
  simp[hk] at hG ⊢;by_cases h5:bL<0∨20000<bL
  ·rw[if_pos h5] at hG ⊢;simp[hG]
  rw[if_neg h5] at hG ⊢;exact⟨⟨_,yB b.tenor⟩,fin hG (by omega) (by omega)⟩
theorem Wk {r:Realm}(hr:RightD r)(b:Bill)(seen bL:Int):oO r b seen bL=qa r b seen bL:=by
 have h:=(LI r hr b seen bL).det (afR r hr b seen bL);simp at h;exact Prod.ext h.1 h.2
end Rm
namespace Rm
open Go Go.Proofs Cx
theorem agm (o:Order)(q:Int)(cs:List Cell)(hq:(lj q).1=0)(hk:(oK o q cs).1.known=true):0≤(oK o q cs).1.n∧(oK o q cs).1.n≤20000:=by
 unfold oK at hk ⊢;split at hk
 ·cases hk
 ·rename_i h;rw[if_neg h];simp only at hk ⊢;split at hk
  ·rename_i h2;rw[if_pos h2];simp only;omega
  ·rename_i h2;exact absurd ⟨hq,hk⟩ h2
theorem agu (r:Realm)(forum q:Int)(c:Case)(hq:(lj q).1=0)(hk:(lE r forum q c).cell.known=true):0≤(lE r forum q c).cell.n∧(lE r forum q c).cell.n≤20000:=by
 unfold lE at hk ⊢;split at hk
 ·rename_i h;exfalso;have:(gq r forum q c).1.cell=dK:=by
   unfold gq
   repeat' split
   all_goals rfl
  rw[this] at hk;cases hk
 ·rename_i h;rw[if_neg h];exact agm _ _ _ hq hk
end Rm
namespace Rm
open Go Go.Proofs Cx
abbrev As (t:Bool×Int):D:=.agg [.bool t.1,.int t.2]
theorem DX (l:List Int)(hl:l.length≤100000):ak T Hf [ints l] (.int (lD l)):=by
 refine .of_tree rfl agT ayW ?_;simp[S7,lD];refine⟨_,pW l 0 (by omega),?_⟩;cases hasB l 0
 ·simp;refine⟨_,pW l 2 (by omega),?_⟩;cases hasB l 2<;>simp
 ·simp
theorem afy (s:Said)(a:Int):ak T Z8 [j6 s,.int a] (.int (oD s a)):=by
 refine .of_tree rfl agV ayY ?_;simp[S9];refine⟨_,VA s,?_⟩;unfold oD;generalize ku s=t;by_cases h1:t=0
 ·simp[h1]
 by_cases h2:a=1
 ·simp[h2]
 by_cases h3:t=2<;>simp[h1,h2,h3]
theorem af3 (c:City)(hc:sJ c)(d n:Int):ak T ZS [fe c,.int d,.int n] (.tup [.int (qK c d n).1,.int (qK c d n).2]):=by
 refine .of_tree rfl agE ayG ?_;simp[SO];refine⟨_,yq d,?_⟩;unfold qK;by_cases h0:cI d=false∨n<0∨20000<n
 ·have ej:(cI d=false∨n<0)∨20000<n:=by
   rcases h0 with h|h|h
   ·exact .inl (.inl h)
   ·exact .inl (.inr h)
   ·exact .inr h
  simp[h0,ej]
 have ej:¬((cI d=false∨n<0)∨20000<n):=fun h=>h0 (by
  rcases h with(h|h)|h
  ·exact .inl h
  ·exact .inr (.inl h)
  ·exact .inr (.inr h))
 have hd:cI d=true:=by
  cases e:cI d
  ·exact absurd (.inl e) h0
  ·rfl
 obtain⟨N,rfl⟩:=Int.eq_ofNat_of_zero_le (show 0≤n by omega);have h0n:¬((N:Int)<0∨20000<(N:Int)):=by omega
 simp[hd,h0n];have cT:0≤d∧d≤100000:=by simpa [cI] using hd
 generalize hX:qL c N d=X;refine aO.forLoop (α:=Nat×Int) (fun s vr vo=>(s.1≤N∧(0≤s.2∧s.2≤100000)∧qL c (N-s.1) s.2=X)∧vr=[.int s.2,.int 0,.int 0,.int s.1]∧vo=[]) (fun s=>N-s.1) (0,d) ?_ ?_
 ·simp;exact⟨cT,hX⟩
 rintro⟨k,e⟩ vr vo ⟨⟨hk,he,hx⟩,rfl,rfl⟩;simp only at hk he hx ⊢;by_cases ah:k<N
 ·have hw:IntKind.i64.wrap ((k:Int)+1)=(k:Int)+1:=bD (by omega);have cV:IntKind.i64.wrap (e+1)=e+1:=bD (by omega);obtain⟨m,hm⟩:∃m,N-k=m+1:=⟨N-k-1,by omega⟩
  rw[hm] at hx;unfold qL at hx;simp[aei,KC,ah,hw,cV];refine⟨_,Vk c hc (e+1),?_⟩;by_cases hn:(eJ c (e+1)).2=0
  ·have hi:=Hl hn;rw[if_neg (by simpa using hn)] at hx;simp[hn];refine⟨k+1,by omega,(eJ c (e+1)).1,⟨by omega,by omega,?_⟩,rfl,by simp⟩;rw[show N-(k+1)=m from by omega];exact hx
  ·rw[if_pos hn] at hx;simp[hn,←hx]
 ·obtain rfl:k=N:=by omega
  simp[qL] at hx;simp[aei,KC,←hx]
theorem vM (v:DView)(hr:Right v.realm)(hf:FewS v.file)(q:Int):ak T Py [bU v,.int q] (j6 (v.asked q)):=by
 refine .of_tree rfl agW ayZ ?_;simp[Ta];refine⟨_,Vy v.realm hr v.forum q ⟨v.file,v.sign,v.sign,-1,v.due,v.day⟩ hf,?_⟩;simp[DView.asked]
theorem al8 (v:DView)(hc:∀c,c∈v.realm.cities→sJ c)(hp:aw v.file.bill.pay v.realm.cities.length=true)(s:Said)(fr:Int):ak T Hg [bU v,j6 s,.int fr] (As (dB v.city s fr)):=by
 refine .of_tree rfl agX ay0 ?_;have aR:0≤v.file.bill.pay∧v.file.bill.pay<v.realm.cities.length:=by simpa [aw] using hp
 have ah:v.file.bill.pay.toNat<v.realm.cities.length:=by omega
 have aqU:v.city=v.realm.cities[v.file.bill.pay.toNat]:=by simp[DView.city,ah]
 unfold dB;by_cases h1:s.err=0
 case neg=>simp[DD,h1,never]
 cases h2:s.cell.known
 ·simp[DD,h1,h2];rfl
 simp[DD,h1,h2,aR,ah];refine⟨_,af3 v.realm.cities[v.file.bill.pay.toNat] (hc _ (List.getElem_mem ah)) fr s.cell.n,?_⟩;rw[aqU];by_cases h3:(qK v.realm.cities[v.file.bill.pay.toNat] fr s.cell.n).2=0<;>simp[h3,never]
theorem SB (v:DView)(on:Int)(t:Bool×Int):ak T PD [bU v,.int on,As t] (.int (mi v.day on t)):=by
 refine .of_tree rfl ag5 ay8 ?_;unfold mi;obtain⟨t1,t2⟩:=t;cases t1
 ·simp[Lu]
 simp[Lu];by_cases h1:on=-1
 ·by_cases h2:t2<v.day<;>simp[h1,h2]
 ·by_cases h2:on≤t2<;>simp[h1,h2]
theorem Nc (v:DView)(hf:FewS v.file)(kind fr:Int):ak T Pz [bU v,.int kind,.int fr] (.int (fY v.file.bill v.file.acts kind fr)):=by
 refine .of_tree rfl agZ ay2 ?_;have hl:=hf.acts;simp[Tc];unfold fY;refine aO.scan v.file.acts.length (fun k=>ql v.file.bill kind fr (v.file.acts.getD k default)=false) (fun k=>[.int 0,.int k]) (fun _=>[]) ?_ (fun k hk hj aA=>?_) (fun k hk hj aA=>?_) (fun hj=>?_)
 ·simp
 ·have hw:=bl hk (by omega);have hn:¬((v.file.acts[k].kind=kind∧v.file.acts[k].to=v.file.bill.drawee)∧fr≤v.file.acts[k].day):=by simpa [ql,hk] using aA
  simp[Ri,Cw,hk,hw,hn]
 ·have gy:=tD hk (by simpa [hk] using aA) (fun j bB=>by have:=hj j bB;simpa [show j<v.file.acts.length by omega] using this);have hc:(v.file.acts[k].kind=kind∧v.file.acts[k].to=v.file.bill.drawee)∧fr≤v.file.acts[k].day:=by simpa [ql,hk,and_assoc] using aA
  rw[gy];simp[Ri,Cw,hk,hc]
 ·have gy:=v3 (l:=v.file.acts) (p:=ql v.file.bill kind fr) (fun j bB=>by have:=hj j bB;simpa [bB] using this);rw[gy];simp[Ri,Cw]
theorem aeE (v:DView)(hf:FewS v.file):ak T PA [bU v] (.int v.refused):=by
 refine .of_tree rfl ag3 ay6 ?_;simp[Tg];refine⟨_,Nc v hf 1 0,?_⟩;unfold DView.refused me;by_cases h:v.due<fY v.file.bill v.file.acts 1 0<;>simp[h]
theorem MS (v:DView)(hf:FewS v.file):ak T Z9 [bU v] (.int v.dishon):=by
 refine .of_tree rfl agY ay1 ?_;simp[Tb];refine⟨_,aeE v hf,?_⟩;unfold DView.dishon Wj DView.refused;by_cases h:me v.file.bill v.file.acts v.due=-1<;>simp[h]
theorem afa (v:DView)(hr:Right v.realm)(hf:FewS v.file)(hb:0≤v.file.bill.day∧v.file.bill.day≤100000):ak T PB [bU v] (As v.show_):=by
 refine .of_tree rfl ag4 ay7 ?_;simp[Th];refine⟨_,Vz v.realm hr v.forum 7 v.file v.day hf,?_⟩;unfold DView.show_ ae9;have hq:(lj 7).1=0:=by decide
 have rM:=fun hk=>agu v.realm v.forum 7 ⟨{v.file with facts:=[]},0,-1,-1,-1,v.day⟩ hq hk;change (iv v.realm v.forum 7 v.file v.day).cell.known=true→0≤(iv v.realm v.forum 7 v.file v.day).cell.n∧(iv v.realm v.forum 7 v.file v.day).cell.n≤20000 at rM;generalize iv v.realm v.forum 7 v.file v.day=s at*;by_cases h1:s.err=0
 case neg=>simp[h1,never]
 cases h2:s.cell.known
 ·simp[h1,h2];rfl
 have nQ:=rM h2;have hw:IntKind.i64.wrap (v.file.bill.day+s.cell.n)=v.file.bill.day+s.cell.n:=bD (by omega);by_cases h3:100000<v.file.bill.day+s.cell.n<;>simp[h1,h2,h3,hw,never]
end Rm
namespace Rm
open Go Go.Proofs Cx
@[simp] theorem agc (a b:D):(D.agg [a,b]).c 1=b:=_root_.id rfl
structure DRun (v:DView):Prop where
 right:Right v.realm
 few:FewS v.file
 cities:∀c,c∈v.realm.cities→sJ c
 pay:aw v.file.bill.pay v.realm.cities.length=true
 day:0≤v.file.bill.day∧v.file.bill.day≤100000
theorem DRun.days {v:DView}(h:DRun v)(s:Said)(fr:Int):ak T Hg [bU v,j6 s,.int fr] (As (dB v.city s fr)):=al8 v h.cities h.pay s fr
theorem awD (v:DView)(h:DRun v):ak T aab [bU v] (.int v.presented):=by
 refine .of_tree rfl ag1 ay4 ?_;have mM:=h.few.signs;have Xj:=h.few.acts;generalize hX:v.presented=X;unfold DView.presented at hX;simp[Te];by_cases k0:v.file.bill.tenor.kind=0
 ·rw[if_pos k0] at hX;simp[k0];refine⟨_,Nc v h.few 2 0,_,afa v h.right h.few h.day,?_⟩;rw[←hX];exact SB v _ _
 rw[if_neg k0] at hX;simp[k0];have GR:v.seen_=if v.file.bill.tenor.kind=1 then mi v.day (hZ v.file) v.show_ else 1:=rfl;have Bx:ak T PB [bU v] (As v.show_):=afa v h.right h.few h.day;have rest:∀s:Int,v.seen_=s→(∃d,ak (cN tab ext) PA [bU v] d∧
  if d.i=-1 then
        if v.due=-1 then ak (cN tab ext) Hf [D.list [D.int s,D.int 2]] (D.int X)
        else ∃d,ak (cN tab ext) Pz [bU v,D.int 2,D.int v.due] d∧∃Wc,ak (cN tab ext) Py [bU v,D.int 10] Wc∧
         ∃Wd,ak (cN tab ext) Hg [bU v,Wc,D.int v.due] Wd∧∃ri,ak (cN tab ext) PD [bU v,d,Wd] ri∧ak (cN tab ext) Hf [D.list [D.int s,ri]] (D.int X)
  else D.int s=D.int X):=by
  intro s hs;rw[hs] at hX;refine⟨_,aeE v h.few,?_⟩;simp only[FL];by_cases h1:v.refused=-1
  ·rw[if_neg (by simpa using h1)] at hX;rw[if_pos h1];by_cases h2:v.due=-1
   ·rw[if_pos h2] at hX ⊢;rw[←hX];exact DX [s,2] (by simp)
   ·rw[if_neg h2] at hX ⊢;refine⟨_,Nc v h.few 2 v.due,_,vM v h.right h.few 10,_,h.days _ _,_,SB v _ _,?_⟩;rw[←hX];exact DX [s,_] (by simp)
  ·rw[if_pos h1] at hX;rw[if_neg h1,hX]
 by_cases k1:v.file.bill.tenor.kind=1
 ·rw[if_pos k1] at GR;simp[k1];refine⟨_,aeC v.file (by omega) (by omega),_,Bx,_,SB v _ _,?_⟩;exact rest _ GR
 ·rw[if_neg k1] at GR;have hr:=rest _ GR;simp only[amk] at hr;simp[k1];exact hr
theorem awG (v:DView)(h:DRun v):ak T aac [bU v] (.int v.protested):=by
 refine .of_tree rfl ag2 ay5 ?_;have Xj:=h.few.acts;generalize hX:v.protested=X;unfold DView.protested at hX;simp[Tf];refine⟨_,MS v h.few,_,vM v h.right h.few 10,_,h.days _ _,?_⟩;generalize dB v.city (v.asked 10) v.dishon=t at*;obtain⟨t1,t2⟩:=t;cases t1
 ·simpa using hX
 simp at hX ⊢;refine aO.forLoop (α:=Nat×Int) (fun s vr vo=>(s.1≤v.file.acts.length∧gZ v.file.bill v.dishon t2 (ku (v.asked 9)) (v.file.acts.drop s.1) s.2=X)∧vr=[.int 0,.int s.2,.int s.1]∧vo=[]) (fun s=>v.file.acts.length-s.1) (0,if v.day≤t2 then 2 else 0) ?_ ?_
 ·simp;refine⟨hX,?_⟩;split<;>rfl
 rintro⟨k,b⟩ vr vo ⟨⟨hk,hx⟩,rfl,rfl⟩;simp only at hk hx ⊢;by_cases ah:k<v.file.acts.length
 ·have hw:=bl ah (by omega);rw[List.drop_eq_getElem_cons ah] at hx;unfold gZ at hx;simp[aem,KG,ah,hw];generalize v.file.acts[k]=a at*;by_cases h1:((¬a.kind=4∨¬a.to=v.file.bill.drawee)∨a.day<v.dishon)∨t2<a.day
  ·rw[if_pos (by simpa [or_assoc] using h1)] at hx;rw[if_pos h1];exact⟨k+1,by omega,b,⟨by omega,hx⟩,rfl,by simp⟩
  rw[if_neg (by simpa [or_assoc] using h1)] at hx;rw[if_neg h1];by_cases h2:a.form=1
  ·rw[if_pos h2] at hx ⊢;refine⟨_,vM v h.right h.few 9,_,VA _,?_⟩;simp only[FL];by_cases h3:ku (v.asked 9)=1
   ·rw[if_pos h3] at hx ⊢;exact hx
   ·rw[if_neg h3] at hx ⊢;refine⟨k+1,by omega,_,⟨by omega,hx⟩,?_,by simp⟩;split<;>rfl
  ·rw[if_neg h2] at hx ⊢;exact hx
 ·obtain rfl:k=v.file.acts.length:=by omega
  simp[gZ] at hx;simp[aem,KG,←hx]
theorem avs (v:DView)(h:DRun v)(hs:0≤v.sign∧v.sign<v.file.signs.length):ak T aaa [bU v] (.int v.notified):=by
 refine .of_tree rfl ag0 ay3 ?_;have Xj:=h.few.acts;have ah:v.sign.toNat<v.file.signs.length:=by omega
 have uk:v.who=v.file.signs[v.sign.toNat].who:=by simp[DView.who,dm,ah]
 generalize hX:v.notified=X;unfold DView.notified at hX;simp[Td];refine⟨_,MS v h.few,_,vM v h.right h.few 12,?_⟩;simp;refine⟨_,h.days _ _,?_⟩;have rC:=fun d=>h.days (v.asked 12) d;generalize v.asked 12=said at*;generalize AZ:dB v.city said v.dishon=t at*;obtain⟨t1,t2⟩:=t;cases t1
 ·simpa using hX
 simp at hX ⊢;generalize hN:fE (fun d=>(dB v.city said d).2) v.dishon t2 v.who v.file.acts [] t2=N at hX;refine aO.forLoop (α:=Nat×List Act×Int) (fun s vr vo=>(s.1≤v.file.acts.length∧s.2.1.length≤s.1∧fE (fun d=>(dB v.city said d).2) v.dishon t2 v.who (v.file.acts.drop s.1) s.2.1 s.2.2=N)∧vr=[.int 0,.int s.2.2,.none,.int s.1]∧vo=[acts s.2.1]) (fun s=>v.file.acts.length-s.1) (0,[],t2) ?_ ?_
 ·simp[acts];exact hN
 rintro⟨k,bY,last⟩ vr vo ⟨⟨hk,hg,hx⟩,rfl,rfl⟩;simp only at hk hg hx ⊢;by_cases GA:k<v.file.acts.length
 ·have hw:=bl GA (by omega);rw[List.drop_eq_getElem_cons GA] at hx;unfold fE at hx;simp[ael,KF,GA,hw,ah,hs];have mF:v.file.acts[k]?=some v.file.acts[k]:=by simp[GA]
  generalize v.file.acts[k]=a at*;by_cases h1:a.kind=5
  case neg=>
   rw[if_pos h1] at hx;rw[if_neg h1];exact⟨k+1,by omega,bY,last,⟨by omega,by omega,hx⟩,by simp⟩
  rw[if_neg (by simpa using h1)] at hx;rw[if_pos h1];refine aO.forRounds bY.length (fun j=>[.bool ((decide (v.dishon≤a.day)&&decide (a.day≤t2))||(bY.take j).any fun b=>decide (b.to=a.who)&&decide (a.day≤(dB v.city said b.day).2)),.int j]) (fun _=>[]) ?_ (fun j hj=>?_) ?_
  ·simp[mF];by_cases e:v.dishon≤a.day<;>simp[e]
  ·have qy:=bl hj (by omega);rw[List.take_succ_eq_append_getElem hj,List.any_append,←Bool.or_assoc];generalize ((decide (v.dishon≤a.day)&&decide (a.day≤t2))||(bY.take j).any fun b=>decide (b.to=a.who)&&decide (a.day≤(dB v.city said b.day).2))=A;simp[aek,KE,hj,qy,mF];cases A
   ·by_cases e:bY[j].to=a.who
    ·simp[e];exact⟨_,rC bY[j].day,by simp⟩
    ·simp[e]
   ·simp
  ·simp[aek,KE,mF,hs,ah];have X6:se (fun d=>(dB v.city said d).2) v.dishon t2 bY a=true↔(v.dishon≤a.day∧a.day≤t2∨∃x,x∈bY∧x.to=a.who∧a.day≤(dB v.city said x.day).2):=by simp[se]
   by_cases h2:se (fun d=>(dB v.city said d).2) v.dishon t2 bY a=true
   ·rw[if_neg (by simp[h2])] at hx;rw[if_pos (X6.1 h2)];rw[uk] at hx;by_cases h3:a.to=v.file.signs[v.sign.toNat].who
    ·rw[if_pos h3] at hx ⊢;rw[←hx] at hX;simpa using hX
    ·rw[if_neg h3] at hx ⊢;refine⟨by omega,_,rC a.day,k+1,by omega,bY++[a],max last (dB v.city said a.day).2,⟨by omega,by simp;omega,?_⟩,⟨?_,by simp⟩,by simp[acts]⟩
     ·rw[←hx,uk]
     ·simp only[agc,FL];exact Hd _ _
   ·rw[if_pos (by simpa using h2)] at hx;rw[if_neg (fun e=>h2 (X6.2 e))];exact⟨k+1,by omega,bY,last,⟨by omega,by omega,hx⟩,⟨rfl,by simp⟩,rfl⟩
 ·obtain rfl:k=v.file.acts.length:=by omega
  simp[fE] at hx;rw[←hx] at hX;simp[ael,KF];by_cases e:last<v.day
  ·rw[if_neg (by simp),if_pos e] at hX;simp[e,hX]
  ·rw[if_neg (by simp),if_neg e] at hX;simp[e,hX]
theorem Zh (r:Realm)(hr:Right r)(hd:RightD r)(forum:Int)(f:File)(sign day:Int)(hf:FewS f):ak T Z7 [aZ r,.int forum,cD f,.int sign,.int day] (bU (jr r forum f sign day)):=by
 refine .of_tree rfl agU ayX ?_;simp[S8];refine⟨_,R5 f day (by have:=hf.signs;omega) (by have:=hf.acts;omega) (by have:=hf.alters;omega) (by have:=hf.facts;omega),_,afZ r hr hd forum f day hf,?_⟩;simp;rfl
theorem atA (r:Realm)(hr:Right r)(hd:RightD r)(forum:Int){f:File}(sign day:Int)(hf:FewS f)(hp:aw f.bill.pay r.cities.length=true)(hb:0≤f.bill.day∧f.bill.day≤100000):DRun (jr r forum f sign day):=
 ⟨hr,hf.at_ day,hd.cities,hp,hb⟩
theorem afQ (r:Realm)(hr:Right r)(hd:RightD r)(forum:Int)(f:File)(day:Int)(hf:FewS f):ak T Z5 [aZ r,.int forum,cD f,.int day] (.int (MR r forum f day)):=by
 refine .of_tree rfl agR ayU ?_;simp[S5];exact⟨_,Zh r hr hd forum f 0 day hf,MS _ (hf.at_ day)⟩
@[simp] theorem aHe (x:DView)(a0 a1 a2 a3 a4 a5 a6 a7 a8 a9 jZ j0 j3 j4 j5 lx ly lz lC sY sZ s9 tc td yC yD yE yF yG yH yI:D):(cM [a0,a1,a2,a3,a4,a5,a6,a7,a8,a9,jZ,j0,j3,j4,j5,lx,ly,lz,lC,sY,sZ,s9,tc,td,yC,yD,yE,yF,yG,yH,yI] 0 [strs x.realm.currencies,kH x.realm.cities,groups x.realm.groups,firms x.realm.firms,orders x.realm.orders,usances x.realm.usances,rates x.realm.rates,halts x.realm.halts,.int x.forum,.int x.file.bill.drawer,.int x.file.bill.drawee,.int x.file.bill.payee,.int x.file.bill.sum,.int x.file.bill.currency,.int x.file.bill.tenor.kind,.int x.file.bill.tenor.n,.int x.file.bill.tenor.unit,.int x.file.bill.day,.int x.file.bill.city,.int x.file.bill.pay,.int x.file.bill.need,.int x.file.bill.rate,.int x.file.bill.flags,.int x.file.bill.parts,signs x.file.signs,alters x.file.alters,acts x.file.acts,facts x.file.facts,.int x.sign,.int x.day,.int x.due])[24]?.getD D.none=signs x.file.signs:=_root_.id rfl
@[simp] theorem aHf (x:DView)(a0 a1 a2 a3 a4 a5 a6 a7 a8 a9 jZ j0 j3 j4 j5 lx ly lz lC sY sZ s9 tc td yC yD yE yF yG yH yI:D):(cM [a0,a1,a2,a3,a4,a5,a6,a7,a8,a9,jZ,j0,j3,j4,j5,lx,ly,lz,lC,sY,sZ,s9,tc,td,yC,yD,yE,yF,yG,yH,yI] 0 [strs x.realm.currencies,kH x.realm.cities,groups x.realm.groups,firms x.realm.firms,orders x.realm.orders,usances x.realm.usances,rates x.realm.rates,halts x.realm.halts,.int x.forum,.int x.file.bill.drawer,.int x.file.bill.drawee,.int x.file.bill.payee,.int x.file.bill.sum,.int x.file.bill.currency,.int x.file.bill.tenor.kind,.int x.file.bill.tenor.n,.int x.file.bill.tenor.unit,.int x.file.bill.day,.int x.file.bill.city,.int x.file.bill.pay,.int x.file.bill.need,.int x.file.bill.rate,.int x.file.bill.flags,.int x.file.bill.parts,signs x.file.signs,alters x.file.alters,acts x.file.acts,facts x.file.facts,.int x.sign,.int x.day,.int x.due])[30]?.getD D.none=.int x.due:=_root_.id rfl
@[simp] theorem aHU (a0 a1 a2 a3 x:D):cM [a0,a1,a2,a3] 0 [x]=[x,a1,a2,a3]:=_root_.id rfl
@[simp] theorem aHV (a0 a1 a2 a3 x:D):cM [a0,a1,a2,a3] 1 [x]=[a0,x,a2,a3]:=_root_.id rfl
@[simp] theorem aHW (a0 a1 a2 a3 x:D):cM [a0,a1,a2,a3] 2 [x]=[a0,a1,x,a3]:=_root_.id rfl
theorem LK (r:Realm)(hr:Right r)(hd:RightD r)(forum:Int)(f:File)(sign day:Int)(hf:FewS f)(hp:aw f.bill.pay r.cities.length=true)(hb:0≤f.bill.day∧f.bill.day≤100000):
 ak T Z6 [aZ r,.int forum,cD f,.int sign,.int day] (nB (jo r forum f sign day)):=by
 refine .of_tree rfl agS ayV ?_;have hR:=atA r hr hd forum sign day hf hp hb;have asG:(jr r forum f sign day).sign=sign:=rfl;unfold jo;simp[S6];refine⟨_,Zh r hr hd forum f sign day hf,?_⟩;generalize jr r forum f sign day=v at*;subst asG;simp;unfold DView.kept;by_cases h1:v.sign<0∨(v.file.signs.length:Int)≤v.sign
 ·rw[if_pos h1,if_pos h1];rfl
 rw[if_neg h1,if_neg h1];refine⟨_,awD v hR,?_⟩;simp;by_cases h2:v.due=-1
 ·simp[h2];refine⟨_,DX [v.presented,2,2] (by simp),?_⟩;rfl
 ·simp[h2];refine⟨_,vM v hR.right hR.few 8,_,awG v hR,_,afy _ _,_,vM v hR.right hR.few 11,_,avs v hR ⟨by omega,by omega⟩,_,afy _ _,?_⟩;simp;refine⟨_,DX [_,_,_] (by simp),?_⟩;rfl
end Rm
namespace Rm
open Go Go.Proofs Cx
theorem amo {r:Realm}{b:Bill}(hr:RightD r)(hc:gJ r=0)(NI:aw b.city r.cities.length=true)(dE:aw b.pay r.cities.length=true)(hd:cI b.day=true)(hk:b.tenor.kind=3)(hu:b.tenor.unit=0)
 (hn:cI b.tenor.n=true) {g:Int} (hg:0≤g∧g≤20000) (hs:b.tenor.n+g≤100000):oO r b (-1) g=lb r b.pay (b.tenor.n+g):=by
 have jE:=KY r hr.small;rw[hc] at jE;have fB:0≤b.tenor.n∧b.tenor.n≤100000:=by simpa [cI] using hn
 have nR:=Sl r hr.halts b.pay (b.tenor.n+g) (by simpa [aw] using dE) hr.cities (by omega) (by omega);have hb:ak T xc [aZ r,dg b,.int (-1)] (.tup [.int b.tenor.n,.int 0]):=by
  refine .of_tree rfl th vq ?_;simp[mj,hk]
 have h:ak T BT [aZ r,dg b,.int (-1),.int g] (.tup [.int (lb r b.pay (b.tenor.n+g)).1,.int (lb r b.pay (b.tenor.n+g)).2]):=by
  have mG:=wW r b.city;have XM:=wW r b.pay;have tU:=rW b.day;have XN:=rW b.tenor.n;have XO:=yB b.tenor;rw[NI] at mG;rw[dE] at XM;rw[hd] at tU;rw[hn] at XN;rw[show sI b.tenor=false from by simp[sI,hk]] at XO;have hw:IntKind.i64.wrap (b.tenor.n+g)=b.tenor.n+g:=bD (by omega);have lN:¬g<0:=by omega
  have fL:¬20000<g:=by omega
  have dF:¬100000<b.tenor.n+g:=by omega
  refine .of_tree rfl LV Uw ?_;simp[DE];refine⟨_,jE,?_⟩;simp;refine⟨_,mG,?_⟩;simp;refine⟨_,XM,?_⟩;simp;refine⟨_,tU,?_⟩;simp[hk,hu,lN,fL];refine⟨_,XO,?_⟩;simp;refine⟨_,hb,?_⟩;simp;refine⟨_,XN,?_⟩;simp[hw,dF];refine⟨_,nR,?_⟩;simp
 have h2:=h.det (LI r hr b (-1) g);simp at h2;exact Prod.ext h2.1.symm h2.2.symm
end Rm
namespace Rm
open Go Go.Proofs Cx
def sU:Order:=⟨⟨#[103,101,110,101,118,97]⟩,false,[],[⟨8,⟨1,1,[]⟩⟩,⟨9,⟨2,15,[]⟩⟩,⟨10,⟨0,2,[]⟩⟩]⟩
def fb:Realm:=⟨[⟨#[102,114,97,110,99]⟩],[⟨⟨#[76,121,111,110]⟩,0,0,[],[],[]⟩],[⟨0⟩],[⟨⟨#[97]⟩,0,0⟩,⟨⟨#[98]⟩,0,0⟩],[sU],[],[],[]⟩
def pV:Bill:=⟨0,1,0,5,0,⟨3,10,0⟩,2,0,0,-1,0,1,1⟩
def eg (on form:Int):File:=⟨pV,[⟨0,0,0,-1,-1,0,2,0,0⟩],[],⟨2,0,1,0,-1,0,10,0,0⟩::(if 0≤form then[⟨4,0,1,0,-1,0,on,0,form⟩] else[]),[]⟩
set_option maxRecDepth 10000 in
theorem aA7:ak T aaf [] (aZ fb):=by
 refine .of_tree rfl ag8 azb ?_;simp[Tk];kernel_rfl
set_option maxRecDepth 10000 in
theorem yw (on form:Int):ak T aah [.int on,.int form] (cD (eg on form)):=by
 refine .of_tree rfl aha azd ?_;by_cases h:0≤form
 ·have e:eg on form=⟨pV,[⟨0,0,0,-1,-1,0,2,0,0⟩],[],[⟨2,0,1,0,-1,0,10,0,0⟩,⟨4,0,1,0,-1,0,on,0,form⟩],[]⟩:=by simp[eg,h]
  rw[e];simp[Lv,h];rfl
 ·have e:eg on form=⟨pV,[⟨0,0,0,-1,-1,0,2,0,0⟩],[],[⟨2,0,1,0,-1,0,10,0,0⟩],[]⟩:=by simp[eg,h]
  rw[e];simp[Lv,h];rfl
theorem aBe:Small fb:=by
 refine⟨by decide,by decide,by decide,by decide,by decide,by decide,by decide,by decide,?_,?_,?_⟩
 ·intro c hc;obtain rfl:c=⟨⟨#[76,121,111,110]⟩,0,0,[],[],[]⟩:=by simpa [fb] using hc
  simp
 ·intro o ho;obtain rfl:o=sU:=by simpa [fb] using ho
  simp[sU]
 ·intro x hx;simp[fb] at hx
theorem Vc:RightD fb:=⟨aBe,by decide,fun h hh=>by simp[fb] at hh⟩
theorem afH:Right fb:=by
 refine⟨?_,by decide,?_⟩
 ·intro o ho;obtain rfl:o=sU:=by simpa [fb] using ho
  exact⟨by decide,fun ch h=>by simp[sU] at h⟩
 ·intro o ho;obtain rfl:o=sU:=by simpa [fb] using ho
  refine⟨⟨⟨by decide,fun ch h=>by simp[sU] at h⟩,by decide,?_⟩,by decide⟩;intro x hx;simp[sU] at hx;rcases hx with rfl|rfl|rfl
  all_goals exact⟨by unfold aX;decide,.mk _ _ [] (by unfold aX;omega) (by unfold aX;omega) (by decide) (fun _ h=>by cases h)⟩
theorem DM (on form day:Int)(h1:(aI (eg on form) day).signs≠[])(h3:max (py (iv fb 0 6 (aI (eg on form) day) day)) 0=0):iP fb 0 (eg on form) day=10:=by
 have h2:hZ (aI (eg on form) day)=-1:=by
  unfold hZ;have:(aI (eg on form) day).acts.find? (ld (aI (eg on form) day))=none:=by
   refine List.find?_eq_none.2 fun a _=>?_;simp[ld,aI,eg,pV]
  rw[this];rfl
 have h4:oO fb pV (-1) 0=lb fb 0 10:=amo (b:=pV) Vc (by kernel_rfl) (by decide) (by decide) (by decide) rfl rfl (by decide) (by decide) (by decide);have h5:lb fb 0 10=(10,0):=by kernel_rfl
 unfold iP;rw[if_neg h1,h2,h3,show(eg on form).bill=pV from rfl,h4,h5];simp
theorem aA9:jo fb 0 (eg 0 (-1)) 0 12=⟨1,2,1,2⟩:=by
 unfold jo jr;rw[DM 0 (-1) 12 (by decide) (by kernel_rfl)];kernel_rfl
theorem aBa:jo fb 0 (eg 0 (-1)) 0 13=⟨1,0,1,0⟩:=by
 unfold jo jr;rw[DM 0 (-1) 13 (by decide) (by kernel_rfl)];kernel_rfl
theorem aBb:jo fb 0 (eg 12 0) 0 40=⟨1,1,1,1⟩:=by
 unfold jo jr;rw[DM 12 0 40 (by decide) (by kernel_rfl)];kernel_rfl
theorem aBc:jo fb 0 (eg 12 1) 0 40=⟨1,2,1,2⟩:=by
 unfold jo jr;rw[DM 12 1 40 (by decide) (by kernel_rfl)];kernel_rfl
theorem aBd:jo fb 0 (eg 12 0) 0 1=⟨0,0,0,0⟩:=by
 have h:iP fb 0 (eg 12 0) 1=-1:=by
  unfold iP;rw[if_pos (by decide)]
 unfold jo jr;rw[h];rfl
theorem aA8:MR fb 0 (eg 0 (-1)) 12=10:=by
 have h:(DView.mk fb 0 (aI (eg 0 (-1)) 12) 0 12 10).dishon=10:=by kernel_rfl
 unfold MR jr;rw[DM 0 (-1) 12 (by decide) (by kernel_rfl)];exact h
theorem afG (on form:Int):FewS (eg on form):=by
 refine⟨by simp[eg],by simp[eg],?_,by simp[eg]⟩;unfold eg;split<;>simp
theorem axT:ak T aag [] (.bool true):=by
 have k:=fun on form day=>LK fb afH Vc 0 (eg on form) 0 day (afG on form) (show aw pV.pay _=true by decide) (show 0≤pV.day∧pV.day≤100000 by decide);have k1:=k 0 (-1) 12;have k2:=k 0 (-1) 13;have k3:=k 12 0 40;have k4:=k 12 1 40;have k5:=k 12 0 1;rw[aA9] at k1;rw[aBa] at k2;rw[aBb] at k3;rw[aBc] at k4;rw[aBd] at k5;have k6:=afQ fb afH Vc 0 (eg 0 (-1)) 12 (afG _ _);rw[aA8] at k6;refine .of_tree rfl ag9 azc ?_;simp[Tl];refine⟨_,aA7,_,yw 0 (-1),?_⟩;simp;refine⟨_,k1,_,yw 0 (-1),_,k2,_,yw 12 0,_,k3,_,yw 12 1,_,k4,_,yw 12 0,_,k5,?_⟩;simp;refine⟨_,yw 0 (-1),_,k6,?_⟩;simp;exact⟨rfl,rfl,rfl,rfl,rfl,rfl,rfl,rfl,rfl,rfl,rfl,rfl,rfl,rfl,rfl,rfl,rfl,rfl,rfl,rfl⟩
end Rm
namespace Rm
open Go Go.Proofs Cx
def aiV (r:Realm)(f:File):Prop:=AK r f=true∧PaperOK r f
theorem ann {r:Realm}{f:File}(h:oS r f=true)(hc:gJ r=0):AK r f=true:=by simp[AK,h,hc]
theorem aiW (r:Realm)(hr:r.OK)(f:File)(AN:f.OK):∃d,ak T aae [aZ r,cD f] d∧∃b:Bool,d=.bool b∧(b=true→aiV r f):=by
 refine ak.ex_of_tree rfl ag7 aza ?_;simp[Tj];refine⟨_,aw2 r f hr,?_⟩;cases e1:oS r f
 ·simp
 have hs:Small r:=M5 hr (by simp only[oS,Bool.and_eq_true] at e1;exact e1.1.1);simp;refine⟨_,awM r hs,?_⟩;by_cases e2:gJ r=0
 case neg=>simp[e2]
 simp[e2];obtain⟨d,hd,e,rfl,he⟩:=awn r hs f AN;refine⟨_,hd,?_⟩;simp;by_cases e0:e=0
 ·exact .inr ⟨e0,ann e1 e2,he.1 e0⟩
 ·exact .inl e0
instance (a b:Int):Decidable (de a b):=by unfold de;infer_instance
theorem ayb (a b:Int):ak T PF [.int a,.int b] (.bool (decide (de a b))):=by
 refine .of_tree rfl ahc azf ?_;simp[To];by_cases h:a=2
 ·simp[de,h]
 ·simp[de,h]
theorem aya (a b:Kept)(h:KStays a b):ak T aai [nB a,nB b] (.bool true):=by
 have s:=fun x y (h:de x y)=>(show ak T PF [.int x,.int y] (.bool true) from by have:=ayb x y;rwa [decide_eq_true h] at this)
 refine .of_tree rfl ahb aze ?_;simp[Tn];refine⟨_,s _ _ h.shown,rfl,_,s _ _ h.protest,⟨rfl,rfl⟩,_,s _ _ h.notice,?_⟩;simp;exact s _ _ h.all_
theorem aiU {r:Realm}{f:File}(h:PaperOK r f):aw f.bill.pay r.cities.length=true:=by
 have:=h.bill.where_;simp only[qY,Bool.and_eq_true] at this;exact this.2
theorem aiT {r:Realm}{f:File}(h:PaperOK r f):0≤f.bill.day∧f.bill.day≤100000:=by
 have:=h.bill.range;unfold vc at this;omega
end Rm
namespace Rm
open Go Go.Proofs Cx
structure Sees (f g:File) (s:Int):Prop where
 bill:g.bill=f.bill
 there:aw s f.signs.length=true
 there':aw s g.signs.length=true
 sign:g.signs.getD s.toNat default=f.signs.getD s.toNat default
 alt:oJ g s=oJ f s
 fact:∀k,fK g k s=fK f k s
theorem VB (r:Realm)(forum q:Int){c c':Case}(h:Sees (aI c.file c.day) (aI c'.file c'.day) c.sign)(hs:c'.sign=c.sign)(hh:c'.holder=c.holder)(hd:c'.defence=c.defence)(hu:c'.due=c.due)(NT:iN c=c.sign):
 lE r forum q c'=lE r forum q c:=by
 have e0:iN (aW c')=iN (aW c):=by unfold iN;rw[show(aW c').holder=(aW c).holder from hh]
 have e2:iN (aW c)=c.sign:=NT;have e1:np (aW c')=np (aW c):=by
  have i1:aw c.sign (aW c).file.signs.length=true:=h.there;have i2:aw c.sign (aW c').file.signs.length=true:=h.there';have i3:c.sign<(aW c).file.signs.length:=by simp[aw] at i1;omega
  have i4:c.sign<(aW c').file.signs.length:=by simp[aw] at i2;omega
  unfold np;rw[e0,e2,show(aW c').sign=c.sign from hs,show(aW c).sign=c.sign from rfl,show(aW c').holder=(aW c).holder from hh,show(aW c').due=(aW c).due from hu,i1,i2,decide_eq_true i3,decide_eq_true i4]
 have mM:(aW c').file.signs.getD (aW c').sign.toNat default=(aW c).file.signs.getD (aW c).sign.toNat default:=by
  rw[show(aW c').sign=c.sign from hs];exact h.sign
 have hv:gG r (aW c')=gG r (aW c):=by
  unfold gG;rw[e1,mM];split
  ·generalize (aW c).file.signs.getD (aW c).sign.toNat default=s;have h1:oA (aW c') s=oA (aW c) s:=by
        unfold oA;rw[show(aW c').file.bill=(aW c).file.bill from h.bill,show(aW c').defence=(aW c).defence from hd,show(aW c').due=(aW c).due from hu]
   have h2:oB r (aW c') s=oB r (aW c) s:=by
        have ha:oJ (aW c').file (aW c').sign=oJ (aW c).file (aW c).sign:=by
         rw[show(aW c').sign=c.sign from hs];exact h.alt
        unfold oB;rw[ha,show(aW c').file.bill=(aW c).file.bill from h.bill,show(aW c').due=(aW c).due from hu]
   unfold FW;rw[h1,h2,e0,e2,show(aW c').sign=c.sign from hs,show(aW c).sign=c.sign from rfl];have hf:∀k,fK (aW c').file k c.sign=fK (aW c).file k c.sign:=fun k=>h.fact k;rw[hf,hf,hf,hf,hf]
  ·rfl
 have hp:gD r forum (aW c')=gD r forum (aW c):=by
  have GP:dm (aW c').file (aW c').sign=dm (aW c).file (aW c).sign:=mM;have ho:ju r forum (aW c')=ju r forum (aW c):=by
   unfold ju;rw[GP,show(aW c').file.bill=(aW c).file.bill from h.bill]
  have hb:lF r forum (aW c')=lF r forum (aW c):=by
   unfold lF;rw[GP]
  unfold gD;simp only[ho,hb]
 unfold lE gq;rw[hv,hp]
theorem Vu (f:File)(s:Int):oJ f s=true↔∃a,a∈f.alters∧a.at_≤s:=by
 unfold oJ;rw[List.any_eq_true];constructor
 ·rintro⟨k,hk,h⟩;have aY:=List.mem_range.1 hk;simp[aY] at h;exact⟨f.alters[k],List.getElem_mem aY,h⟩
 ·rintro⟨a,ha,h⟩;obtain⟨k,hk,rfl⟩:=List.getElem_of_mem ha;exact⟨k,List.mem_range.2 hk,by simpa [hk] using h⟩
theorem Vt (f:File)(x s:Int)(h:s<(gF x f.signs).length):oJ (aI f x) s=oJ f s:=by
 rw[Bool.eq_iff_iff,Vu,Vu];constructor
 ·rintro⟨a,ha,h⟩;exact⟨a,(List.mem_filter.1 ha).1,h⟩
 ·rintro⟨a,ha,h2⟩;exact⟨a,List.mem_filter.2 ⟨ha,by simp[fV];omega⟩,h2⟩
theorem Sorted.sees {f:File}(h:Sorted f){x y:Int}(cK:x≤y){i:Nat}(hi:i<(aI f x).signs.length):Sees (aI f x) (aI f y) (i:Int):=by
 obtain⟨m,h1,h2,h3⟩:=h.signs_app cK;have cU:i<(aI f y).signs.length:=by rw[h1,List.length_append];omega
 have j1:aw (i:Int) (gF x f.signs).length=true:=by have:i<(gF x f.signs).length:=hi;simp[aw];omega
 have j2:aw (i:Int) (gF y f.signs).length=true:=by have:i<(gF y f.signs).length:=cU;simp[aw];omega
 refine⟨rfl,j1,j2,?_,?_,fun k=>?_⟩
 ·rw[h1];simp[List.getElem?_append_left hi]
 ·rw[Vt f x i (by simp[aw] at j1;omega),Vt f y i (by simp[aw] at j2;omega)]
 ·rw[WC,WC,j1,j2]
theorem ags (r:Realm)(forum q due:Int){f:File}(h:Sorted f){x y:Int}(cK:x≤y){i:Nat}(hi:i<(aI f x).signs.length):
 lE r forum q ⟨aI f y,i,i,-1,due,y⟩=lE r forum q ⟨aI f x,i,i,-1,due,x⟩:=by
 refine VB r forum q (c:=⟨aI f x,i,i,-1,due,x⟩) ?_ rfl rfl rfl rfl (by simp[iN];omega);show Sees (aI (aI f x) x) (aI (aI f y) y) i;rw[yP f (Int.le_refl x),yP f (Int.le_refl y)];exact h.sees cK hi
theorem VD (f:File)(x:Int):aI {f with facts:=[]} x={aI f x with facts:=[]}:=rfl
theorem VM (r:Realm)(forum q:Int){f:File}(h:Sorted f){x y:Int}(cK:x≤y)(hi:0<(aI f x).signs.length):
 iv r forum q (aI f y) y=iv r forum q (aI f x) x:=by
 unfold iv;refine VB r forum q (c:=⟨{aI f x with facts:=[]},0,-1,-1,-1,x⟩) ?_ rfl rfl rfl rfl (by simp[iN]);show Sees (aI {aI f x with facts:=[]} x) (aI {aI f y with facts:=[]} y) 0;rw[VD,VD,yP f (Int.le_refl x),yP f (Int.le_refl y)];obtain⟨a1,a2,a3,a4,a5,a6⟩:=h.sees cK hi;exact⟨a1,a2,a3,a4,a5,fun k=>rfl⟩
theorem aeY {f:File}(h0:f.bill.tenor.kind≠0)(h1:f.bill.tenor.kind≠1):hZ f=-1:=by
 have hs:f.acts.find? (ld f)=none:=by
  rw[List.find?_eq_none];intro a _;simp[ld,h0]
 unfold hZ;rw[hs];unfold ia gp;simp[h1,dY]
theorem au2 {r:Realm}(hr:RightD r)(forum:Int){f:File}(h:Sorted f){x y:Int}(cK:x≤y)(hm:iP r forum f x≠-1):iP r forum f y=iP r forum f x:=by
 unfold iP at hm ⊢;by_cases aD:(aI f x).signs=[]
 ·rw[if_pos aD] at hm;exact absurd rfl hm
 have Ov:0<(aI f x).signs.length:=List.length_pos_iff.2 aD;have N7:(aI f y).signs≠[]:=by
  obtain⟨m,h1,_,_⟩:=h.signs_app cK;rw[h1];simp[aD]
 rw[if_neg aD] at hm ⊢;rw[if_neg N7,VM r forum 6 h cK Ov];have hs:hZ (aI f y)=hZ (aI f x):=by
  by_cases hk:f.bill.tenor.kind=0∨f.bill.tenor.kind=1
  ·rcases aeX h cK with⟨h1,h2,h3⟩|⟨h1,h2⟩
   ·exact h3
   ·exfalso;have OH:sI f.bill.tenor=true:=by simp[sI,hk]
    have h0:∀g,(qa r f.bill (-1) g).2≠0:=by
        intro g;unfold qa;rw[OH];split
        ·simp
        split
        ·simp
        split
        ·simp
        rw[if_pos ⟨rfl,rfl⟩];simp
    rw[Wk hr,h1,if_pos (h0 _)] at hm;exact hm rfl
  ·rw[aeY (f:=aI f y) (fun e=>hk (.inl e)) (fun e=>hk (.inr e)),aeY (f:=aI f x) (fun e=>hk (.inl e)) (fun e=>hk (.inr e))]
 rw[hs]
theorem ax2 {r:Realm}(hh:sV r)(city:Int){d:Int}(h0:0≤d)(hd:d≤100001):(lb r city d).2=0→0≤(lb r city d).1∧(lb r city d).1≤100000:=by
 unfold lb;generalize r.cities.getD city.toNat default=c;generalize fj r city=o;have key:∀(n:Nat) (d:Int),0≤d→d≤100001→(100002-d).toNat≤n→(pK r c o n d).2=0→0≤(pK r c o n d).1∧(pK r c o n d).1≤100000:=by
  intro n
  induction n with
  |zero=>intro d h0 h1 h2;omega
  |succ n ih=>
   intro e h1 h2 h3;have OI:=Sr hh o (100002-e).toNat e h2;rw[ae7];change e≤ib r o e∧ib r o e≤100001 at OI;generalize ib r o e=x at*;have mK:=Hl (c:=c) (d:=x);by_cases he:(eJ c x).2=0
   ·obtain⟨g1,g2,g3⟩:=mK he;rw[if_neg (by simp[he])];by_cases hy:(eJ c x).1=x
    ·rw[if_pos hy];intro _;have e1:((x,0):Int×Int).1=x:=rfl;omega
    ·rw[if_neg hy];exact ih _ (by omega) (by omega) (by omega)
   ·rw[if_pos he];intro h;cases h
 exact key _ d h0 hd (Nat.le_refl _)
theorem au3 {r:Realm}(hr:RightD r)(forum:Int)(f:File)(day:Int):iP r forum f day=-1∨(0≤iP r forum f day∧iP r forum f day≤100000):=by
 unfold iP;by_cases aD:(aI f day).signs=[]
 ·rw[if_pos aD];exact .inl rfl
 rw[if_neg aD,Wk hr];generalize hZ (aI f day)=sn;generalize max (py (iv r forum 6 (aI f day) day)) 0=g;by_cases he:(qa r f.bill sn g).2=0
 case neg=>rw[if_pos he];exact .inl rfl
 rw[if_neg (by simp[he])];right;unfold qa at he ⊢;split at he
 ·cases he
 rename_i c1;rw[if_neg c1];split at he
 ·cases he
 rename_i c2;rw[if_neg c2];split at he
 ·cases he
 rename_i c3;rw[if_neg c3];split at he
 ·cases he
 rename_i c4;rw[if_neg c4];generalize tj r.usances f.bill sn=B at*;unfold G1 at he ⊢;split at he
 ·rename_i hb;exact absurd he hb
 rename_i c5;rw[if_neg c5];split at he
 ·cases he
 rename_i c6;rw[if_neg c6];have hd:0≤B.1∧B.1≤100000:=by
  have:¬cI B.1=false:=fun e=>c6 (.inl e);simpa [cI] using this
 have hw:IntKind.i64.wrap (B.1+g)=B.1+g:=bD (by omega);rw[hw] at he c6 ⊢;exact ax2 hr.halts f.bill.pay (by omega) (by omega) he
theorem adB (c:City):∀(n:Nat) (d:Int),(qL c n d).2=0→d≤(qL c n d).1
 |0,d,_=>Int.le_refl _
 |n+1,d,h=>by
  unfold qL at h ⊢;by_cases e:(eJ c (d+1)).2=0
  ·rw[if_neg (by simp[e])] at h ⊢;have h1:=adB c n _ h;have h2:=(Hl e).2.1;omega
  ·rw[if_pos e] at h;exact absurd h e
theorem MO (c:City)(s:Said)(fr:Int)(h:(dB c s fr).1=true)(hf:fr≤never):fr≤(dB c s fr).2:=by
 unfold dB at h ⊢;split
 ·exact hf
 split
 ·rename_i h1 h2;rw[if_neg h1,if_pos h2] at h;cases h
 ·split
  ·exact hf
  ·rename_i h3;have dx:(qK c fr s.cell.n).2=0:=by omega
   show fr≤(qK c fr s.cell.n).1;unfold qK at dx ⊢;split at dx
   ·cases dx
   ·rename_i h4;rw[if_neg h4];exact adB c _ _ dx
theorem QN (b:Bill)(fr last w:Int):∀(l:List Act) (fJ:Int),(∀a,a∈l→a.day<fr∨last<a.day)→gZ b fr last w l fJ=fJ
 |[],_,_=>rfl
 |a::l,fJ,h=>by
  unfold gZ;rw[if_pos (by have:=h a (by simp);omega)];exact QN b fr last w l fJ fun x hx=>h x (by simp[hx])
theorem QL (b:Bill)(fr last w:Int)(m:List Act)(hm:∀a,a∈m→a.day<fr∨last<a.day):∀(l:List Act) (fJ:Int),gZ b fr last w (l++m) fJ=gZ b fr last w l fJ
 |[],fJ=>QN b fr last w m fJ hm
 |a::l,fJ=>by
  rw[List.cons_append];unfold gZ;generalize (if a.form=1 then w else 1)=u;split
  ·exact QL b fr last w m hm l fJ
  split
  ·rfl
  ·exact QL b fr last w m hm l _
theorem QM (b:Bill)(fr last w:Int)(m:List Act):∀(l:List Act) (fJ D4:Int),fJ≠1→gZ b fr last w l fJ=1→gZ b fr last w (l++m) D4=1
 |[],fJ,D4,h,e=>absurd e h
 |a::l,fJ,D4,h,e=>by
  rw[List.cons_append];unfold gZ at e ⊢;generalize (if a.form=1 then w else 1)=u at*;split
  ·rename_i h1;rw[if_pos h1] at e;exact QM b fr last w m l fJ D4 h e
  ·rename_i h1;rw[if_neg h1] at e;split
   ·rfl
   ·rename_i h2;rw[if_neg h2] at e;refine QM b fr last w m l _ _ ?_ e;split
    ·decide
    ·exact h
theorem QK (b:Bill)(fr last w:Int):∀(l:List Act),gZ b fr last w l 2=2∨gZ b fr last w l 2=1
 |[]=>.inl rfl
 |a::l=>by
  unfold gZ;generalize (if a.form=1 then w else 1)=u;split
  ·exact QK b fr last w l
  split
  ·exact .inr rfl
  ·have:(if u=2 then(2:Int) else 2)=2:=by split<;>rfl
   rw[this];exact QK b fr last w l
theorem awF (b:Bill)(fr last w:Int){x y:Int}(cK:x≤y)(l m:List Act)(hm:∀a,a∈m→x<a.day):
 de (gZ b fr last w l (if x≤last then 2 else 0)) (gZ b fr last w (l++m) (if y≤last then 2 else 0)):=by
 by_cases hx:x≤last
 ·rw[if_pos hx];rcases QK b fr last w l with e|e
  ·exact .inl e
  ·exact .inr (by rw[e,QM b fr last w m l 2 _ (by decide) e])
 ·rw[if_neg hx,if_neg (by omega),QL b fr last w m (fun a ha=>.inr (by have:=hm a ha;omega))];exact .inr rfl
theorem Hp (dd:Int→Int)(fr tl who:Int)(m:List Act):∀(l bY:List Act) (last:Int),(fE dd fr tl who l bY last).1=true→(fE dd fr tl who (l++m) bY last).1=true
 |[],bY,last,h=>by cases h
 |a::l,bY,last,h=>by
  rw[List.cons_append];unfold fE at h ⊢;split
  ·rename_i h1;rw[if_pos h1] at h;exact Hp dd fr tl who m l bY last h
  rename_i h1;rw[if_neg h1] at h;split
  ·rename_i h2;rw[if_pos h2] at h;exact Hp dd fr tl who m l bY last h
  rename_i h2;rw[if_neg h2] at h;split
  ·rfl
  rename_i h3;rw[if_neg h3] at h;exact Hp dd fr tl who m l _ _ h
theorem avr {dd:Int→Int}{fr tl:Int}{bY:List Act}{a:Act}{last:Int}(hg:∀b,b∈bY→dd b.day≤last)(ht:tl≤last)(h:last<a.day):se dd fr tl bY a=false:=by
 unfold se
 have h1:(bY.any fun b=>decide (b.to=a.who)&&decide (a.day≤dd b.day))=false:=by
  rw[List.any_eq_false];intro b hb;have:=hg b hb;simp;intro _;omega
 have h2:decide (a.day≤tl)=false:=by simp;omega
 rw[h1,h2];simp
theorem abF (dd:Int→Int)(fr tl who:Int){x:Int}:∀(m bY:List Act) (last:Int),(∀b,b∈bY→dd b.day≤last)→tl≤last→last<x→(∀a,a∈m→x<a.day)→fE dd fr tl who m bY last=(false,last)
 |[],_,_,_,_,_,_=>rfl
 |a::m,bY,last,hg,ht,hl,hm=>by
  unfold fE;rw[avr hg ht (by have:=hm a (by simp);omega)];rw[if_pos rfl];have:=abF dd fr tl who m bY last hg ht hl fun b hb=>hm b (by simp[hb]);rw[this];split<;>rfl
theorem Ho (dd:Int→Int)(fr tl who:Int){x:Int}(m:List Act)(hm:∀a,a∈m→x<a.day):∀(l bY:List Act) (last:Int),(∀b,b∈bY→dd b.day≤last)→tl≤last→
 (fE dd fr tl who l bY last).1=false→(fE dd fr tl who l bY last).2<x→fE dd fr tl who (l++m) bY last=fE dd fr tl who l bY last
 |[],bY,last,hg,ht,_,hx=>abF dd fr tl who m bY last hg ht hx hm
 |a::l,bY,last,hg,ht,hf,hx=>by
  rw[List.cons_append];unfold fE at hf hx ⊢;split
  ·rename_i h1;rw[if_pos h1] at hf hx;exact Ho dd fr tl who m hm l bY last hg ht hf hx
  rename_i h1;rw[if_neg h1] at hf hx;split
  ·rename_i h2;rw[if_pos h2] at hf hx;exact Ho dd fr tl who m hm l bY last hg ht hf hx
  rename_i h2;rw[if_neg h2] at hf hx;split
  ·rfl
  rename_i h3;rw[if_neg h3] at hf hx;refine Ho dd fr tl who m hm l _ _ (fun b hb=>?_) ?_ hf hx
  ·rcases List.mem_append.1 hb with hb|hb
   ·have:=hg b hb;have h2:last≤max last (dd a.day):=Int.le_max_left ..;omega
   ·rw[List.mem_singleton.1 hb];exact Int.le_max_right ..
  ·have h2:last≤max last (dd a.day):=Int.le_max_left ..;omega
theorem abE (dd:Int→Int)(fr tl who:Int):∀(l:List Act) (last:Int),(∀a,a∈l→a.day<fr)→fE dd fr tl who l [] last=(false,last)
 |[],_,_=>rfl
 |a::l,last,h=>by
  have hb:se dd fr tl [] a=false:=by
   have:=h a (by simp);simp[se]
   intros
   omega
  unfold fE;rw[hb,if_pos rfl,abE dd fr tl who l last fun x hx=>h x (by simp[hx])];split<;>rfl
theorem axv {f:File}(h:Sorted f){x y:Int}(cK:x≤y)(hx:0≤x)(b:Bill)(d:Int):me b (aI f y).acts d=me b (aI f x).acts d∨(me b (aI f x).acts d=-1∧x<d∧me b (aI f y).acts d≠-1∧x<me b (aI f y).acts d):=by
 have hl:=Nb h cK b 1 0;unfold me;rcases hl with⟨h1,h2,h3⟩|⟨h1,h2⟩
 ·left;rw[h3]
 ·rcases h2 with h2|h2
  ·left;rw[h1,h2]
  ·by_cases hd:d<fY b (aI f y).acts 1 0
   ·left;rw[if_pos hd,h1];split<;>rfl
   ·right;rw[if_neg hd,h1];refine⟨by split<;>rfl,by omega,by omega,h2⟩
structure DLater (v w:DView) (f:File) (x y:Int):Prop where
 sorted:Sorted f
 le:x≤y
 nn:0≤x
 vf:v.file=aI f x
 wf:w.file=aI f y
 vd:v.day=x
 wd:w.day=y
 there:∃i:Nat,v.sign=i∧i<v.file.signs.length
 realm:w.realm=v.realm
 forum:w.forum=v.forum
 sign:w.sign=v.sign
 due:v.due≠-1→w.due=v.due
 dueR:v.due≤100000
variable {v w:DView} {f:File} {x y:Int}
theorem DLater.acts (h:DLater v w f x y):∃m,w.file.acts=v.file.acts++m∧∀a,a∈m→x<a.day:=by
 obtain⟨m,h1,h2,_⟩:=h.sorted.acts_app h.le;exact⟨m,by rw[h.vf,h.wf];exact h1,h2⟩
theorem DLater.bill (h:DLater v w f x y):w.file.bill=v.file.bill:=by rw[h.vf,h.wf];rfl
theorem DLater.city (h:DLater v w f x y):w.city=v.city:=by unfold DView.city;rw[h.realm,h.bill]
theorem DLater.asked (h:DLater v w f x y)(hd:v.due≠-1)(q:Int):w.asked q=v.asked q:=by
 obtain⟨i,hi,ah⟩:=h.there;unfold DView.asked;rw[h.realm,h.forum,h.sign,h.due hd,h.vf,h.wf,h.vd,h.wd,hi];exact ags _ _ _ _ h.sorted h.le (by rw[←h.vf];exact ah)
theorem DLater.pos (h:DLater v w f x y):0<(aI f x).signs.length:=by
 obtain⟨i,hi,ah⟩:=h.there;rw[←h.vf];omega
theorem DLater.show_ (h:DLater v w f x y):w.show_=v.show_:=by
 unfold DView.show_;rw[h.realm,h.forum,h.vd,h.wd,h.vf,h.wf,VM _ _ 7 h.sorted h.le h.pos];rfl
theorem DLater.seen_ (h:DLater v w f x y):de v.seen_ w.seen_:=by
 have hs:=aeX h.sorted h.le;unfold DView.seen_;rw[h.bill,h.show_,h.vd,h.wd,h.wf,h.vf];split
 ·exact SA h.le hs _
 ·exact .inr rfl
theorem DLater.refused (h:DLater v w f x y)(hd:v.due≠-1):w.refused=v.refused∨(v.refused=-1∧x<v.due∧w.refused≠-1∧x<w.refused):=by
 unfold DView.refused;rw[h.bill,h.due hd,h.vf,h.wf];exact axv h.sorted h.le h.nn _ _
theorem DLater.dishon (h:DLater v w f x y)(hd:v.due≠-1):w.dishon=v.dishon∨(v.dishon=v.due∧x<v.due):=by
 have hv:v.dishon=if v.refused≠-1 then v.refused else v.due:=rfl;have hw:w.dishon=if w.refused≠-1 then w.refused else w.due:=rfl;rcases h.refused hd with e|⟨e,h1,_⟩
 ·left;rw[hv,hw,e,h.due hd]
 ·right;rw[hv,e];exact⟨by simp,h1⟩
theorem axw {b:Bill}{l:List Act}(h:fY b l 1 0=-1∨0≤fY b l 1 0):me b l (-1)=-1:=by
 unfold me;split<;>omega
theorem DLater.presented (h:DLater v w f x y):de v.presented w.presented:=by
 have rP:=h.seen_;have Bx:=axZ v;unfold DView.presented;rw[h.bill];by_cases hk:v.file.bill.tenor.kind=0
 ·rw[if_pos hk,if_pos hk,h.show_,h.vd,h.wd,h.vf,h.wf];exact SA h.le (Nb h.sorted h.le _ _ _) _
 rw[if_neg hk,if_neg hk];by_cases hd:v.due=-1
 ·have hr:v.refused=-1:=by
   unfold DView.refused;rw[hd,h.vf];refine axw ?_;by_cases e:fY (aI f x).bill (aI f x).acts 1 0=-1
   ·exact .inl e
   ·exact .inr (WL h.sorted x _ 1 0 e).1
  rw[if_neg (by rw[hr];simp),if_pos hd];rw[vJ];unfold de vD at*;by_cases e0:v.seen_=0
  ·have e1:w.seen_=0:=by omega
   right;rw[if_pos (.inl e0)];split
   ·exact e1.symm
   split
   ·rw[vJ,if_pos (.inl e1)]
   ·rw[vJ,if_pos (.inl e1)]
  ·left;rw[if_neg (by omega),if_pos (.inr rfl)]
 have cT:=h.due hd;have bh:w.due≠-1:=by rw[cT];exact hd
 rcases h.refused hd with e|⟨e,h1,h2,h3⟩
 ·rw[e,if_neg hd,if_neg bh,h.asked hd,h.city,cT];split
  ·exact rP
  ·refine agk rP ?_;rw[h.vd,h.wd,h.vf,h.wf];exact SA h.le (Nb h.sorted h.le _ _ _) _
 ·rw[if_neg (by rw[e];simp),if_neg hd,if_pos h2];have ht:mi v.day (fY v.file.bill v.file.acts 2 v.due) (dB v.city (v.asked 10) v.due)=2:=by
   have ho:fY v.file.bill v.file.acts 2 v.due=-1:=by
     refine Classical.byContradiction fun hc=>?_;rw[h.vf] at hc;have:=WL h.sorted x _ 2 v.due hc;omega
   rw[ho];unfold mi;split
   ·rfl
   rename_i nJ;have:=MO v.city (v.asked 10) v.due (by simpa using nJ) (by have:=h.dueR;unfold never;omega);rw[if_neg (by simp),if_neg (by rw[h.vd];simp;omega)]
  rw[ht,vJ];unfold de vD at*;by_cases e0:v.seen_=0
  ·right;rw[if_pos (.inl e0)];omega
  ·left;rw[if_neg (by omega),if_pos (.inr rfl)]
theorem VG {f:File}{x:Int}(v:DView)(hv:v.file=aI f x):∀a,a∈v.file.acts→a.day≤x:=fun a ha=>by
 rw[hv] at ha;exact(yO ha).1
theorem DLater.protested (h:DLater v w f x y)(hd:v.due≠-1):de v.protested w.protested:=by
 obtain⟨m,qv,ka⟩:=h.acts;rcases h.dishon hd with e|⟨e,h1⟩
 ·unfold DView.protested;rw[e,h.city,h.asked hd,h.asked hd,h.bill,qv,h.vd,h.wd];split
  ·exact .inl rfl
  ·exact awF _ _ _ _ h.le _ _ ka
 ·left;unfold DView.protested;rw[e];split
  ·rfl
  rename_i nJ;have dS:=MO v.city (v.asked 10) v.due (by simpa using nJ) (by have:=h.dueR;unfold never;omega);have hle:=VG v h.vf;rw[QN _ _ _ _ _ _ fun a ha=>.inl (by have:=hle a ha;omega),if_pos (by rw[h.vd];omega)]
theorem DLater.who (h:DLater v w f x y):w.who=v.who:=by
 obtain⟨i,hi,ah⟩:=h.there;have hs:=(h.sorted.sees h.le (i:=i) (by rw[←h.vf];exact ah)).sign;unfold DView.who dm;rw[h.sign,h.vf,h.wf,hi];exact congrArg Sign.who hs
theorem DLater.notified (h:DLater v w f x y)(hd:v.due≠-1):de v.notified w.notified:=by
 obtain⟨m,qv,ka⟩:=h.acts;rcases h.dishon hd with e|⟨e,h1⟩
 ·unfold DView.notified;rw[e,h.city,h.asked hd,qv,h.vd,h.wd,h.who];split
  ·exact .inl rfl
  generalize (fun d=>(dB v.city (v.asked 12) d).2)=dd;generalize (dB v.city (v.asked 12) v.dishon).2=tl;cases hf:(fE dd v.dishon tl v.who v.file.acts [] tl).1 with
  |true=>
   rw[if_pos rfl,Hp dd _ _ _ m _ _ _ hf,if_pos rfl];exact .inr rfl
  |false=>
   rw[if_neg (by simp)];by_cases hx:(fE dd v.dishon tl v.who v.file.acts [] tl).2<x
   ·rw[Ho dd _ _ _ m ka _ _ _ (fun b hb=>by cases hb) (Int.le_refl _) hf hx,hf];simp only[Bool.false_eq_true,if_false];rw[if_pos hx,if_pos (by have:=h.le;omega)];exact .inr rfl
   ·rw[if_neg hx];exact .inl rfl
 ·left;unfold DView.notified;rw[e];split
  ·rfl
  rename_i nJ;have dS:=MO v.city (v.asked 12) v.due (by simpa using nJ) (by have:=h.dueR;unfold never;omega);have hle:=VG v h.vf;rw[abE _ _ _ _ _ _ fun a ha=>(by have:=hle a ha;omega),if_neg (by simp),if_neg (by rw[h.vd];simp;omega)]
theorem DLater.kept (h:DLater v w f x y):KStays v.kept w.kept:=by
 obtain⟨i,hi,ah⟩:=h.there;have arQ:i<w.file.signs.length:=by
  obtain⟨m,h1,_,_⟩:=h.sorted.signs_app h.le;rw[h.wf,h1,List.length_append,←h.vf];omega
 have h1:=h.presented;have h2:de (if v.due≠-1 then oD (v.asked 8) v.protested else 2) (if w.due≠-1 then oD (w.asked 8) w.protested else 2):=by
  by_cases hd:v.due=-1
  ·rw[if_neg (by simp[hd])];exact .inl rfl
  ·rw[if_pos hd,if_pos (by rw[h.due hd];exact hd),h.asked hd];exact afz (.rfl' _) (h.protested hd)
 have h3:de (if v.due≠-1 then oD (v.asked 11) v.notified else 2) (if w.due≠-1 then oD (w.asked 11) w.notified else 2):=by
  by_cases hd:v.due=-1
  ·rw[if_neg (by simp[hd])];exact .inl rfl
  ·rw[if_pos hd,if_pos (by rw[h.due hd];exact hd),h.asked hd];exact afz (.rfl' _) (h.notified hd)
 have hA:¬(v.sign<0∨(v.file.signs.length:Int)≤v.sign):=by omega
 have hB:¬(w.sign<0∨(w.file.signs.length:Int)≤w.sign):=by rw[h.sign];omega
 unfold DView.kept;rw[if_neg hA,if_neg hB];exact⟨h1,h2,h3,agl h1 h2 h3⟩
theorem att {r:Realm}(hr:RightD r)(forum:Int){f:File}(h:Sorted f){x y:Int}(cK:x≤y)(hx:0≤x){i:Nat}(hi:i<(aI f x).signs.length)(hm:iP r forum f x≤100000):
 KStays (jo r forum f i x) (jo r forum f i y):=
 DLater.kept (v:=jr r forum f i x) (w:=jr r forum f i y) ⟨h,cK,hx,rfl,rfl,rfl,rfl,⟨i,rfl,hi⟩,rfl,rfl,rfl,fun hd=>au2 hr forum h cK hd,hm⟩
theorem ats (r:Realm)(forum:Int)(f:File)(sign:Int){x y:Int}(cK:x≤y):jo r forum (aI f y) sign x=jo r forum f sign x:=by
 have e:jr r forum (aI f y) sign x=jr r forum f sign x:=by
  unfold jr iP;rw[yP f cK];rfl
 unfold jo;rw[e]
end Rm
namespace Rm
open Go Go.Proofs Cx
theorem aw0 (f:File)(day:Int)(h1:f.signs.length≤4294967295)(h2:f.acts.length≤4294967295)(h3:f.alters.length≤4294967295)(h4:f.facts.length≤4294967295):ak T aaG [cD f,.int day] (cD (aI f day)):=by
 refine .of_tree rfl ahF azI ?_;simp[TR];obtain⟨m,hm,hS,F9,rz⟩:=vu (fun s:Sign=>decide (s.day≤day)) f.signs;obtain⟨n,hn,hA,No,Np⟩:=vu (fun s:Act=>decide (s.day≤day)) f.acts;refine aO.forRounds m (fun k=>[.int k]) (fun k=>[]) ?_ (fun k hk=>?_) ?_
 ·simp
 ·have aY:k<f.signs.length:=by omega
  have hw:=bl aY (by omega);have hd:=F9 k aY hk;simp at hd;have cT:¬day<f.signs[k].day:=by omega
  simp[Rz,CP,aY,hw,cT]
 have nL:(f.signs.take m).length=m:=by simp;omega
 have Oc:(f.acts.take n).length=n:=by simp;omega
 have Nq:aI f day=⟨f.bill,f.signs.take m,f.alters.filter (fV m),f.acts.take n,f.facts.filter (eP m)⟩:=by
  unfold aI gF yp;rw[hS,hA,nL]
 rw[Nq];by_cases dC:m<f.signs.length
 case' pos=>
  have hd:=rz dC;simp at hd;simp[Rz,CP,dC,hd];generalize D.bool true=bb
 case' neg=>
  simp[Rz,CP,dC];generalize D.bool false=bb
 all_goals
  refine aO.forRounds n (fun k=>[.int k]) (fun k=>[]) ?_ (fun k hk=>?_) ?_
  ·simp
  ·have aY:k<f.acts.length:=by omega
   have hw:=bl aY (by omega);have hd:=No k aY hk;simp at hd;have cT:¬day<f.acts[k].day:=by omega
   simp[RA,CQ,aY,hw,cT]
  by_cases fB:n<f.acts.length
  case' pos=>
   have hd:=Np fB;simp at hd;simp[RA,CQ,fB,hd];generalize D.bool true=bc
  case' neg=>
   simp[RA,CQ,fB];generalize D.bool false=bc
  all_goals
   refine⟨by omega,by omega,by omega,by omega,?_⟩;refine aO.forRounds f.alters.length (fun k=>[.int k]) (fun k=>[kF f.bill (signs (f.signs.take m)) (kf ((f.alters.take k).filter (fV m))) (acts (f.acts.take n)) (.list []),alters ((f.alters.take k).filter (fV m))]) ?_ (fun k hk=>?_) ?_
   ·simp[alters,signs,acts,kF]
    try rfl
   ·have hw:=bl hk (by omega);have ht:=yj (fV m) f.alters hk;rw[ht];have hlen:((f.alters.take k).filter (fV m)).length≤k:=Nat.le_trans (List.length_filter_le _ _) (by simp;omega);generalize (f.alters.take k).filter (fV m)=B at*;by_cases hd:f.alters[k].at_≤(m:Int)
    ·simp[RB,CR,fV,hk,hw,hd];exact⟨by omega,by simp[alters,kF,Yb]<;>rfl⟩
    ·simp[RB,CR,fV,hk,hw,hd]
   simp[RB,CR];generalize f.alters.filter (fV m)=B at*;refine aO.forRounds f.facts.length (fun k=>[.int k]) (fun k=>[kF f.bill (signs (f.signs.take m)) (kf B) (acts (f.acts.take n)) (kf ((f.facts.take k).filter (eP m))),facts ((f.facts.take k).filter (eP m))]) ?_ (fun k hk=>?_) ?_
   ·simp[facts]
   ·have hw:=bl hk (by omega);have ht:=yj (eP m) f.facts hk;rw[ht];have hlen:((f.facts.take k).filter (eP m)).length≤k:=Nat.le_trans (List.length_filter_le _ _) (by simp;omega);generalize (f.facts.take k).filter (eP m)=C at*;by_cases bj:0≤f.facts[k].at_
    ·by_cases cZ:f.facts[k].at_<(m:Int)
     ·simp[KM,xU,eP,aw,hk,hw,bj,cZ];exact⟨by omega,by simp[facts,kF,Yb]<;>rfl⟩
     ·simp[KM,xU,eP,aw,hk,hw,bj,cZ]
    ·simp[KM,xU,eP,aw,hk,hw,bj]
   simp[KM,xU]
   try rfl
theorem afP (r:Realm)(hr:r.OK)(forum:Int)(f:File)(AN:f.OK)(sign x y:Int):ak T aad [aZ r,.int forum,cD f,.int sign,.int x,.int y] (.bool true):=by
 refine .of_tree rfl ag6 ay9 ?_;simp[Ti];obtain⟨d,hd,b,rfl,hb⟩:=aiW r hr f AN;refine⟨_,axT,_,hd,?_⟩;cases b
 ·simp
 obtain⟨hg,hP⟩:=hb rfl;have G:=aqd hr hg;obtain⟨lo,nK⟩:∃lo,lo=if y<x then y else x:=⟨_,rfl⟩
 obtain⟨hi,wD⟩:∃hi,hi=if x<y then y else x:=⟨_,rfl⟩
 have e1:(if y<x then D.int y else D.int x)=D.int lo:=by rw[nK];split<;>rfl
 have e2:(if x<y then D.int y else D.int x)=D.int hi:=by rw[wD];split<;>rfl
 have hle:lo≤hi:=by rw[nK,wD];split<;>split<;>omega
 rw[e1,e2,←nK];by_cases hs:sign<0
 ·simp[hs]
 by_cases dF:(f.signs.length:Int)≤sign
 ·simp[dF]
 obtain⟨i,rfl⟩:=Int.eq_ofNat_of_zero_le (show 0≤sign by omega);have qt:i<f.signs.length:=by omega
 by_cases tO:lo<f.signs[i].day
 ·simp[qt,tO]
 simp[qt,tO];have hS:=hP.sorted;have hi0:=(hS.sign_there qt (show f.signs[i].day≤lo by omega)).1;have h0:=hS.sday _ (List.getElem_mem qt);have hp:=aiU hP;have bn:=aiT hP;have hK:=fun d=>LK r G.right G.rightD forum f i d G.few hp bn;have hA:=aw0 f hi (by have:=G.few.signs;omega) (by have:=G.few.acts;omega) (by have:=G.few.alters;omega) (by have:=G.few.facts;omega);have hC:=LK r G.right G.rightD forum (aI f hi) i lo (G.few.at_ hi) hp bn;rw[ats r forum f i hle] at hC;have hm:iP r forum f lo≤100000:=by
  rcases au3 G.rightD forum f lo with e|⟨_,e⟩<;>omega
 have cv:=att G.rightD forum hS hle (by omega) hi0 hm;refine⟨_,hK lo,_,hK hi,_,hA,_,hC,?_⟩;have Yi:∀k:Kept,(iu 4 (D.agg (cM [D.int 0,D.int 0,D.int 0,D.int 0] 0 (nB k).cells)))=nB k:=fun k=>rfl;rw[Yi,Yi];refine⟨_,aya _ _ cv,?_⟩;simp
end Rm
